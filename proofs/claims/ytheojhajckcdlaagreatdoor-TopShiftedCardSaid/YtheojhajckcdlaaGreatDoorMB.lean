/-
  From operations to states: what an operation's effect leaves true. States, continued: boxes, labels' numbers, effects. A call that is handed boxes and labelled slices: what the callee may take for granted, and what its caller gets back. An operation's effect leaves the state right; a region in the text's order. A region that draws its order: what the text's order gives, every order gives. A region that draws its order: the rule. A region that draws its order, of whose operations some may be taken first: copies, and slicings of slices. The evaluator is right: what it answers of a function's code, the model does.
-/
import Derived.Test.YtheojhajckcdlaaGreatDoorMA
set_option linter.unusedVariables false
set_option linter.unusedSimpArgs false
set_option linter.unusedSectionVars false
namespace Nt.Ev
open Go Go.RowKit
def hasL : V → Bool
  | .sl _ _ (some _) _ => true
  | _ => false
def sres (G : Known) (w : World) (B : Nat → Prop) : V → Value → Prop
  | .sl e sh (some _) xs, v => ownFacts G w B e sh xs v
  | x, v => rep G x v
def resrep (G : Known) (w : World) (B : Nat → Prop) : V → Value → Prop
  | .tup vs, v => ∃ a : List Value, v = .tuple a.toArray ∧ PW (sres G w B) vs a ∧ vs.countP hasL ≤ 1
  | x, v => sres G w B x v
def Contract (E : Env) (f : Nat) (args : List V) (r : V) : Prop :=
  ∀ (G : Known) (w : World) (vs : List Value), GOk G w → GlobOk E G → PW (rep G) args vs →
    Calls E.P f vs.toArray w fun e w' => ∃ v G', e = .returned v ∧ New w w' G G' ∧ resrep G' w' (w.heap.size ≤ ·) r v
def XC (E : Env) (f : Nat) (args : List V) (p : Bool) (x : V) (bs : List (List V)) : Prop :=
  ∀ (B : Own) (g : Gh) (w : World) (vs : List Value), B.df = [] → Inv E B g.G w ⟨frArgs 0 args, bxArgs 0 args⟩ g ⟨vs.toArray, []⟩ w →
    Calls E.P f vs.toArray w fun e w' => ∃ g' v, e = (match p with | false => .returned v | true => .panicked [{ v := v, recovered := false }]) ∧ Inv E B g.G w ⟨[x], bxOut 0 args bs⟩ g' ⟨#[v], []⟩ w'
def EffRel (E : Env) (dr : Bool) (s : St) (d : Option Nat) (eff : Eff) (s' : St) : Prop :=
  match eff with
  | .val v => s' = s.put d v
  | .newSl e sh xs => s' = s.put d (.sl e sh none xs)
  | .own e sh xs => ∃ k, d = some k ∧ (s.put (some k) .any).noLabel k = true ∧ k < HL ∧ s' = s.put (some k) (.sl e sh (some k) xs)
  | .app L e sh xs => ∃ k, d = some k ∧ (s.kill L).noLabel (clsN true L k) = true ∧ k < HL ∧ s' = (s.kill L).put (some k) (.sl e sh (some (clsN true L k)) xs)
  | .newBox _ cs => ∃ k, d = some k ∧ s.noBox k = true ∧ cs.all (fun v => bnot (v.hasBox k)) = true ∧ k < HL ∧ s' = ⟨s.fr.set k (.box k 0), (k, cs) :: s.bx⟩
  | .put k off cs => ∃ old, lookBx s.bx k = some old ∧ (isBld (over old off cs) = true → isBld old = true) ∧ s' = St.put ⟨s.fr, setBx s.bx k (over old off cs)⟩ d (.tup [])
  | .call f args mb ml => (hasBxa args = false ∧ ((∃ k r, d = some k ∧ s.noLabel k = true ∧ k < HL ∧ Contract E f (args.map V.unl) r ∧ s' = s.put (some k) (r.relab k)) ∨ (∃ r, d = none ∧ Contract E f (args.map V.unl) r ∧ s' = s))) ∨
      (dr = false ∧ ∃ x bs, XC E f args false x bs ∧ backSt s d mb ml x bs = some s')
  | .pan _ => False
  | .pick b x y => s' = s.put d (match b with | true => x | false => y)
  | .lput L e k ys => L < HL ∧ s' = St.put (s.forget.upd L e k ys) d (.tup [])
  | .alts i vs => ∃ (j : Nat) (v : V), i = (j : Int) ∧ vs[j]? = some v ∧ s' = s.put d v
def EffPan (E : Env) (s : St) (eff : Eff) (v : V) (s' : St) : Prop :=
  (∃ u, flatVal v = some u) ∧ match eff with
  | .call f args mb ml => ∃ bs, XC E f args true v bs ∧ backSt s none mb ml v bs = some s'
  | .pan v' => v' = v ∧ s' = s
  | _ => False
def isOut : V → Bool
  | .out _ _ _ => true
  | _ => false
def CallOk (E : Env) {α : Type} (call : Caller α) : Prop := ∀ f args (K : V → Option α) r, call f args K = some r → ∃ v, K v = some r ∧ ((isOut v = false ∧ Contract E f (args.map V.unl) v) ∨ ∃ p x bs, v = .out p x bs ∧ XC E f args p x bs)
theorem altK_some {α : Type} {i : Int} {K : V → Option α} {r : α} : ∀ (vs : List V) (j0 : Nat), altK i K j0 vs = some r → ∃ (j : Nat) (v : V), i = ((j0 + j : Nat) : Int) ∧ vs[j]? = some v ∧ K v = some r
  | [], j0, h => by cases h
  | v :: l, j0, h => by
    unfold altK at h
    cases hc : ieq i (j0 : Int) with
    | true =>
      rw [hc] at h
      have e : i = (j0 : Int) := by unfold ieq at hc; simpa using hc
      exact ⟨0, v, by simpa using e, rfl, h⟩
    | false =>
      rw [hc] at h
      obtain ⟨j, v', h1, h2, h3⟩ := altK_some l (j0 + 1) h
      exact ⟨j + 1, v', by rw [h1]; congr 1; omega, by simpa using h2, h3⟩
theorem nb_lt {d n : Nat} (h : Nat.blt d n = true) : d < n := by rwa [Nat.blt_eq] at h
theorem effK_rel {E : Env} {α : Type} {call : Caller α} (hc : CallOk E call) {dr : Bool} {s : St} {d : Option Nat} {eff : Eff} {K : St → Option α} {KP : V → St → Option α} {r : α} (h : effK dr call s d eff K KP = some r) :
    (∃ s', EffRel E dr s d eff s' ∧ K s' = some r) ∨ (dr = false ∧ ∃ v s', EffPan E s eff v s' ∧ KP v s' = some r) := by
  cases eff with
  | val v => exact .inl ⟨_, rfl, h⟩
  | newSl e sh xs => exact .inl ⟨_, rfl, h⟩
  | own e sh xs =>
    cases d with
    | none => cases h
    | some k => obtain ⟨h1, h2⟩ := cond_some h; rw [Bool.and_eq_true] at h1; exact .inl ⟨_, ⟨k, rfl, h1.1, nb_lt h1.2, rfl⟩, h2⟩
  | app L e sh xs =>
    cases d with
    | none => cases h
    | some k => obtain ⟨h1, h2⟩ := cond_some h; rw [Bool.and_eq_true] at h1; exact .inl ⟨_, ⟨k, rfl, h1.1, nb_lt h1.2, rfl⟩, h2⟩
  | newBox e cs =>
    cases d with
    | none => cases h
    | some k => obtain ⟨h1, h2⟩ := cond_some h; rw [Bool.and_eq_true, Bool.and_eq_true] at h1; exact .inl ⟨_, ⟨k, rfl, h1.1.1, h1.1.2, nb_lt h1.2, rfl⟩, h2⟩
  | put k off cs =>
    unfold effK at h
    simp only at h
    split at h
    · rename_i old ho; obtain ⟨h, hq⟩ := bld_of h; exact .inl ⟨_, ⟨old, ho, hq, rfl⟩, h⟩
    · cases h
  | call f args mb ml =>
    obtain ⟨v, h1, h2⟩ := hc f args _ r h
    rcases h2 with ⟨ho, h2⟩ | ⟨p, x, bs, rfl, h2⟩
    · have h3 : (bif hasBxa args then none else (match d with
        | some d => bif s.noLabel d && Nat.blt d HL then K (s.put (some d) (v.relab d)) else none
        | none => K s)) = some r := by
        cases v <;> first | exact h1 | cases ho
      cases hb : hasBxa args with
      | true => rw [hb] at h3; cases h3
      | false =>
        rw [hb, cond_false] at h3
        cases d with
        | none => exact .inl ⟨s, .inl ⟨hb, .inr ⟨v, rfl, h2, rfl⟩⟩, h3⟩
        | some k =>
          obtain ⟨h4, h5⟩ := cond_some h3
          rw [Bool.and_eq_true] at h4
          exact .inl ⟨_, .inl ⟨hb, .inl ⟨k, v, rfl, h4.1, nb_lt h4.2, h2, rfl⟩⟩, h5⟩
    · cases dr with
      | true => cases h1
      | false =>
        cases p with
        | true =>
          have h1 : (match backSt s none mb ml x bs with
            | some s' => (match flatVal x with | some _ => KP x s' | none => none)
            | none => none) = some r := h1
          split at h1
          · rename_i s' hs
            split at h1
            · rename_i u hu
              exact .inr ⟨rfl, x, s', ⟨⟨u, hu⟩, bs, h2, hs⟩, h1⟩
            · cases h1
          · cases h1
        | false =>
          have h1 : (match backSt s d mb ml x bs with
            | some s' => K s'
            | none => none) = some r := h1
          split at h1
          · rename_i s' hs
            exact .inl ⟨s', .inr ⟨rfl, x, bs, h2, hs⟩, h1⟩
          · cases h1
  | pan v =>
    cases dr with
    | true => cases h
    | false =>
      have h : (match flatVal v with | some _ => KP v s | none => none) = some r := h
      split at h
      · rename_i u hu
        exact .inr ⟨rfl, v, s, ⟨⟨u, hu⟩, rfl, rfl⟩, h⟩
      · cases h
  | pick b x y => cases b <;> exact .inl ⟨_, rfl, h⟩
  | lput L e k ys => obtain ⟨h1, h2⟩ := cond_some h; exact .inl ⟨_, ⟨nb_lt h1, rfl⟩, h2⟩
  | alts i vs =>
    obtain ⟨j, v, h1, h2, h3⟩ := altK_some vs 0 h
    exact .inl ⟨_, ⟨j, v, by simpa using h1, h2, rfl⟩, h3⟩
section
variable {E : Env} {B : Own} {G0 : Known} {w0 : World} {s : St} {g : Gh} {a : Act} {w : World}
theorem act_put_list (a : Act) (d : Nat) (u : Value) : (a.put (some d) u).tmps.toList = a.tmps.toList.set d u := by
  simp [Act.put]
theorem Inv.put (h : Inv E B G0 w0 s g a w) (d : Option Nat) {v : V} {u : Value} (hv : trep g v u) : Inv E B G0 w0 (s.put d v) g (a.put d u) w := by
  cases d with
  | none => exact ⟨h.fr, h.df, h.gok, h.own, h.bxs, h.bel, h.hB, h.ext, h.glob, h.g1⟩
  | some d => exact ⟨by rw [act_put_list]; exact h.fr.set d hv, h.df, h.gok, h.own, h.bxs, h.bel, h.hB, h.ext, h.glob, h.g1⟩
theorem new_more {w' : World} {G G' : Known} (hG : GOk G w) (h : New w w' G G') : More G G' := fun b l hb => ⟨l, by rw [h.2.1 b (known_lt hG hb)]; exact hb, List.prefix_refl _⟩
theorem own_lt (hG : GOk g.G w) (hO : OOk B g w) {L : Nat} {v : Value} {e sz b : Nat} (h : g.O L = some (v, e, sz)) (hb : v.ownBlock = some b) : b < w.heap.size := by
  rcases (hO.1 L v e sz h).2 with hv | ⟨b', n, cap, cur, l, hv, _, hh, _⟩
  · rw [hv] at hb; cases hb
  · rw [hv] at hb
    simp [Value.ownBlock] at hb
    subst hb
    exact (Array.getElem?_eq_some_iff.1 hh).1
theorem Inv.new {w' : World} {G' : Known} (h : Inv E B G0 w0 s g a w) (hn : New w w' g.G G') : Inv E B G0 w0 s { g with G := G' } a w' ∧ Ext g { g with G := G' } := by
  have hm := new_more h.gok hn
  have he : Ext g { g with G := G' } := ⟨hm, fun _ _ h => h, fun L v e sz b hL hb => hn.2.1 b (own_lt h.gok h.own hL hb), fun _ _ h => h, rfl⟩
  refine ⟨⟨h.fr.mono fun x _ v => trep_ext he, h.df, hn.2.2, ⟨fun L v e sz hL => ?_, h.own.2⟩, ⟨fun k cs hk => ?_, h.bxs.2⟩, h.bel.trans (BelowM.of_below hn.1 h.hB.2), hB_mono h.hB hn.1.size, ⟨fun b hb => (hn.2.1 b (Nat.lt_of_not_le fun e => hb (h.hB.2 b e))).trans (h.ext.1 b hb), h.ext.2.1.trans hm, h.ext.2.2⟩, h.glob, h.g1⟩, he⟩
  · obtain ⟨h1, h2⟩ := h.own.1 L v e sz hL
    refine ⟨h1, h2.imp id ?_⟩
    rintro ⟨b, n, cap, cur, l, hv, hb, hh, hnc, hcm, hcs, hGb, hl⟩
    have hlt := (Array.getElem?_eq_some_iff.1 hh).1
    exact ⟨b, n, cap, cur, l, hv, hb, by rw [hn.1.block b hlt]; exact hh, hnc, hcm, hcs, by show G' b = _; rw [hn.2.1 b hlt]; exact hGb, hl⟩
  · obtain ⟨b, c, e, hb, hBb, hh, hp, ho, hGb, hq⟩ := h.bxs.1 k cs hk
    have hlt := (Array.getElem?_eq_some_iff.1 hh).1
    exact ⟨b, c, e, hb, hBb, by rw [hn.1.block b hlt]; exact hh, hp.mono fun x _ v => trep_ext he, ho, by show G' b = _; rw [hn.2.1 b hlt]; exact hGb, hq⟩
theorem srep_O {g : Gh} {O' : Nat → Option (Value × Nat × Nat)} {d : Nat} (hO : ∀ L, L ≠ d → O' L = g.O L) {x : V} {v : Value} (hx : hasLabelV d x = false) (h : srep g x v) : srep { g with O := O' } x v := by
  cases x with
  | sl e sh ow xs =>
    cases ow with
    | none => exact h
    | some L =>
      have hne : L ≠ d := fun e => by subst e; simp [hasLabelV] at hx
      exact ⟨(hO L hne).trans h.1, h.2⟩
  | eptr L e sh xs i off =>
    have hne : L ≠ d := fun e => by subst e; simp [hasLabelV] at hx
    obtain ⟨v0, b, h1, h2⟩ := h
    exact ⟨v0, b, (hO L hne).trans h1, h2⟩
  | _ => exact h
theorem trep_O {g : Gh} {O' : Nat → Option (Value × Nat × Nat)} {d : Nat} (hO : ∀ L, L ≠ d → O' L = g.O L) {x : V} {v : Value} (hx : x.hasLabel d = false) (h : trep g x v) : trep { g with O := O' } x v := by
  cases x with
  | tup vs =>
    obtain ⟨a, rfl, h⟩ := h
    simp only [V.hasLabel, List.any_eq_false] at hx
    exact ⟨a, rfl, h.mono fun y hy v hv => srep_O hO (by have := hx y hy; simpa using this) hv⟩
  | fn f c =>
    obtain ⟨a, rfl, h⟩ := h
    simp only [V.hasLabel, List.any_eq_false] at hx
    exact ⟨a, rfl, h.mono fun y hy v hv => srep_O hO (by have := hx y hy; simpa using this) hv⟩
  | _ => simp only [trep] at h ⊢; exact srep_O hO hx h
theorem bnot_true {b : Bool} (h : bnot b = true) : b = false := by cases b; rfl; cases h
theorem noLabel_fr {d : Nat} (h : s.noLabel d = true) : ∀ x ∈ s.fr, x.hasLabel d = false := by
  unfold St.noLabel at h
  rw [Bool.and_eq_true, List.all_eq_true] at h
  exact fun x hx => bnot_true (h.1 x hx)
theorem lookBx_mem : ∀ (l : List (Nat × List V)) (k : Nat) (cs : List V), lookBx l k = some cs → (k, cs) ∈ l
  | [], k, cs, h => by cases h
  | (j, ds) :: l, k, cs, h => by
    unfold lookBx at h
    cases hj : j == k with
    | true =>
      rw [hj] at h
      simp only [cond_true, Option.some.injEq] at h
      rw [beq_iff_eq] at hj
      subst hj; subst h
      exact List.mem_cons_self
    | false =>
      rw [hj] at h
      simp only [cond_false] at h
      exact List.mem_cons_of_mem _ (lookBx_mem l k cs h)
theorem noLabel_bx {d : Nat} (h : s.noLabel d = true) : ∀ k cs, lookBx s.bx k = some cs → ∀ x ∈ cs, x.hasLabel d = false := by
  intro k cs hk x hx
  unfold St.noLabel at h
  rw [Bool.and_eq_true, List.all_eq_true, List.all_eq_true] at h
  have h2 := h.2 _ (lookBx_mem _ _ _ hk)
  simp only [List.all_eq_true] at h2
  exact bnot_true (h2 x hx)
theorem noLabel_any {d : Nat} (h : s.noLabel d = true) : (s.put (some d) .any).noLabel d = true := by
  unfold St.noLabel at h ⊢
  rw [Bool.and_eq_true, List.all_eq_true] at h ⊢
  refine ⟨fun x hx => ?_, h.2⟩
  rcases List.mem_or_eq_of_mem_set hx with h1 | rfl
  · exact h.1 x h1
  · rfl
theorem Inv.label (h : Inv E B G0 w0 s g a w) {d e : Nat} {sh : List Kd} {xs : List V} {u : Value} (hd : s.noLabel d = true) (hu : ownFacts g.G w (B.ok d) e sh xs u)
    (hne : ∀ L v e sz b, g.O L = some (v, e, sz) → L ≠ d → v.ownBlock = some b → u.ownBlock ≠ some b) :
    ∃ g', g'.G = g.G ∧ Inv E B G0 w0 s g' a w ∧ srep g' (.sl e sh (some d) xs) u := by
  let O' : Nat → Option (Value × Nat × Nat) := fun L => if L = d then some (u, e, sh.length) else g.O L
  have hO' : ∀ L, L ≠ d → O' L = g.O L := fun L hL => if_neg hL
  refine ⟨{ g with O := O' }, rfl, ⟨h.fr.mono fun x hx v => trep_O hO' (noLabel_fr hd x hx), h.df, h.gok, ⟨?_, ?_⟩, ⟨fun k cs hk => ?_, h.bxs.2⟩, h.bel, h.hB, h.ext, h.glob, h.g1⟩, ⟨if_pos rfl, ?_⟩⟩
  · intro L v e' sz hL
    by_cases hLd : L = d
    · subst hLd
      have hL : (if L = L then some (u, e, sh.length) else g.O L) = some (v, e', sz) := hL
      rw [if_pos rfl] at hL
      simp only [Option.some.injEq, Prod.mk.injEq] at hL
      obtain ⟨rfl, rfl, rfl⟩ := hL
      refine ⟨hu.1, ?_⟩
      rcases hu.2 with ⟨hu, _⟩ | ⟨b, cap, cur, l, hv, hb, hh, hcap, hcm, hcs, hG, hl, hE⟩
      · exact .inl hu
      · exact .inr ⟨b, _, cap, cur, l, hv, hb, hh, hcap, hcm, hcs, hG, hl⟩
    · have hL : O' L = some (v, e', sz) := hL
      rw [hO' L hLd] at hL
      exact h.own.1 L v e' sz hL
  · intro L L' v v' e1 e2 sz sz' b h1 h2 hb hb'
    have h1 : O' L = some (v, e1, sz) := h1
    have h2 : O' L' = some (v', e2, sz') := h2
    by_cases hL : L = d <;> by_cases hL' : L' = d
    · rw [hL, hL']
    · subst hL
      have h1' : (if L = L then some (u, e, sh.length) else g.O L) = some (v, e1, sz) := h1
      rw [if_pos rfl] at h1'
      simp only [Option.some.injEq, Prod.mk.injEq] at h1'
      rw [hO' L' hL'] at h2
      exact absurd (by rw [h1'.1]; exact hb) (hne L' v' e2 sz' b h2 hL' hb')
    · subst hL'
      have h2' : (if L' = L' then some (u, e, sh.length) else g.O L') = some (v', e2, sz') := h2
      rw [if_pos rfl] at h2'
      simp only [Option.some.injEq, Prod.mk.injEq] at h2'
      rw [hO' L hL] at h1
      exact absurd (by rw [h2'.1]; exact hb') (hne L v e1 sz b h1 hL hb)
    · rw [hO' L hL] at h1
      rw [hO' L' hL'] at h2
      exact h.own.2 L L' v v' e1 e2 sz sz' b h1 h2 hb hb'
  · obtain ⟨b, c, e', hb, hBb, hh, hp, ho, hG, hq⟩ := h.bxs.1 k cs hk
    exact ⟨b, c, e', hb, hBb, hh, hp.mono fun x hx v => trep_O hO' (noLabel_bx hd k cs hk x hx), ho, hG, hq⟩
  · rcases hu.2 with ⟨hu, hx⟩ | ⟨b, cap, cur, l, hv, hb, hh, hcap, hcm, hcs, hG, hl, hE⟩
    · exact .inl ⟨hu, hx⟩
    · exact .inr ⟨b, cap, l, hv, hcap, hG, hl, hE⟩
theorem killV_sl (L e : Nat) (sh : List Kd) (k : Nat) (xs : List V) : killV L (.sl e sh (some k) xs) = bif L == k then .sl e sh none xs else .sl e sh (some k) xs := rfl
theorem killV_eptr (L : Nat) (k e : Nat) (sh : List Kd) (xs : List V) (i : Int) (off : Nat) : killV L (.eptr k e sh xs i off) = bif L == k then .any else .eptr k e sh xs i off := rfl
theorem killV_srep {g : Gh} {O' : Nat → Option (Value × Nat × Nat)} {L : Nat} (hO : ∀ k, k ≠ L → O' k = g.O k) {x : V} {v : Value} (h : srep g x v) : srep { g with O := O' } (killV L x) v := by
  cases x with
  | sl e sh ow xs =>
    cases ow with
    | none => exact h
    | some k =>
      rw [killV_sl]
      by_cases hk : L = k
      · have : (L == k) = true := by simpa using hk
        rw [this]
        show rep g.G (V.sl e sh none xs) v
        exact ownG_rep h.2
      · have : (L == k) = false := by simpa using hk
        rw [this]
        exact ⟨(hO k (fun e => hk e.symm)).trans h.1, h.2⟩
  | eptr k e sh xs i off =>
    rw [killV_eptr]
    by_cases hk : L = k
    · have : (L == k) = true := by simpa using hk
      rw [this]
      show rep g.G V.any v
      unfold rep; trivial
    · have : (L == k) = false := by simpa using hk
      rw [this]
      obtain ⟨v0, b, h1, h2⟩ := h
      exact ⟨v0, b, (hO k (fun e => hk e.symm)).trans h1, h2⟩
  | _ => exact h
theorem killV_pw {g : Gh} {O' : Nat → Option (Value × Nat × Nat)} {L : Nat} (hO : ∀ k, k ≠ L → O' k = g.O k) {xs : List V} {vs : List Value} (h : PW (srep g) xs vs) : PW (srep { g with O := O' }) (xs.map (killV L)) vs := by
  refine ⟨by simp [h.1], fun i x v hx hv => ?_⟩
  rw [List.getElem?_map] at hx
  cases hi : xs[i]? with
  | none => rw [hi] at hx; cases hx
  | some y =>
    rw [hi] at hx
    simp only [Option.map_some, Option.some.injEq] at hx
    subst hx
    exact killV_srep hO (h.2 i y v hi hv)
theorem map_pw {R R' : V → Value → Prop} {f : V → V} {xs : List V} {vs : List Value} (h : PW R xs vs) (hf : ∀ z ∈ xs, ∀ v, R z v → R' (f z) v) : PW R' (xs.map f) vs := by
  refine ⟨by simp [h.1], fun i x v hx hv => ?_⟩
  rw [List.getElem?_map] at hx
  cases hi : xs[i]? with
  | none => rw [hi] at hx; cases hx
  | some y =>
    rw [hi] at hx
    simp only [Option.map_some, Option.some.injEq] at hx
    subst hx
    exact hf y (List.mem_of_getElem? hi) v (h.2 i y v hi hv)
theorem killV_single {L : Nat} {x : V} (h : x.single = true) : (killV L x).single = true := by
  cases x with
  | sl e sh ow xs =>
    cases ow with
    | none => rfl
    | some k => rw [killV_sl]; cases L == k <;> rfl
  | eptr k e sh xs i off => rw [killV_eptr]; cases L == k <;> rfl
  | tup _ => cases h
  | fn _ _ => cases h
  | _ => rfl
theorem kill_trep {g : Gh} {O' : Nat → Option (Value × Nat × Nat)} {L : Nat} (hO : ∀ k, k ≠ L → O' k = g.O k) {x : V} {v : Value} (h : trep g x v) : trep { g with O := O' } (x.kill L) v := by
  cases x with
  | tup vs => obtain ⟨a, rfl, h⟩ := h; exact ⟨a, rfl, killV_pw hO h⟩
  | fn f c => obtain ⟨a, rfl, h⟩ := h; exact ⟨a, rfl, killV_pw hO h⟩
  | sl e sh ow xs =>
    have h2 := killV_srep (L := L) hO (trep_single rfl h)
    exact srep_trep (killV_single rfl) h2
  | eptr k e sh xs i off =>
    have h2 := killV_srep (L := L) hO (trep_single (x := .eptr k e sh xs i off) rfl h)
    exact srep_trep (killV_single (x := .eptr k e sh xs i off) rfl) h2
  | _ => simp only [trep] at h ⊢; exact killV_srep hO h
theorem kill_pw {g : Gh} {O' : Nat → Option (Value × Nat × Nat)} {L : Nat} (hO : ∀ k, k ≠ L → O' k = g.O k) {xs : List V} {vs : List Value} (h : PW (trep g) xs vs) : PW (trep { g with O := O' }) (xs.map (V.kill L)) vs := by
  refine ⟨by simp [h.1], fun i x v hx hv => ?_⟩
  rw [List.getElem?_map] at hx
  cases hi : xs[i]? with
  | none => rw [hi] at hx; cases hx
  | some y =>
    rw [hi] at hx
    simp only [Option.map_some, Option.some.injEq] at hx
    subst hx
    exact kill_trep hO (h.2 i y v hi hv)
theorem lookBx_map (f : List V → List V) : ∀ (l : List (Nat × List V)) (k : Nat), lookBx (l.map fun (k, cs) => (k, f cs)) k = (lookBx l k).map f
  | [], k => rfl
  | (j, ds) :: l, k => by
    simp only [List.map_cons, lookBx]
    cases j == k
    · exact lookBx_map f l k
    · rfl
theorem look_kill (s : St) (L k : Nat) : lookBx (s.kill L).bx k = (lookBx s.bx k).map (List.map (V.kill L)) := lookBx_map _ _ _
theorem Inv.kill (h : Inv E B G0 w0 s g a w) (L : Nat) : Inv E B G0 w0 (s.kill L) { g with O := fun k => if k = L then none else g.O k } a w := by
  have hO : ∀ k, k ≠ L → (if k = L then none else g.O k) = g.O k := fun k hk => if_neg hk
  refine ⟨kill_pw hO h.fr, h.df, h.gok, ⟨fun k v e sz hk => ?_, fun k k' v v' e e' sz sz' b h1 h2 => ?_⟩, ⟨fun k cs hk => ?_, fun k k' cs cs' h1 h2 => ?_⟩, h.bel, h.hB, h.ext, h.glob, h.g1⟩
  · have hk : (if k = L then none else g.O k) = some (v, e, sz) := hk
    split at hk
    · cases hk
    · exact h.own.1 k v e sz hk
  · have h1 : (if k = L then none else g.O k) = some (v, e, sz) := h1
    have h2 : (if k' = L then none else g.O k') = some (v', e', sz') := h2
    split at h1
    · cases h1
    · split at h2
      · cases h2
      · exact h.own.2 k k' v v' e e' sz sz' b h1 h2
  · rw [look_kill] at hk
    cases hq : lookBx s.bx k with
    | none => rw [hq] at hk; cases hk
    | some ds =>
      rw [hq] at hk
      simp only [Option.map_some, Option.some.injEq] at hk
      subst hk
      obtain ⟨b, c, e, hb, hBb, hh, hp, ho, hG, hq2⟩ := h.bxs.1 k ds hq
      exact ⟨b, c, e, hb, hBb, hh, kill_pw hO hp, ho, hG, bldT_map (kill_nilp _) hq2⟩
  · rw [look_kill] at h1 h2
    cases hq : lookBx s.bx k with
    | none => rw [hq] at h1; cases h1
    | some ds =>
      cases hq' : lookBx s.bx k' with
      | none => rw [hq'] at h2; cases h2
      | some ds' => exact h.bxs.2 k k' ds ds' hq hq'
end
end Nt.Ev

namespace Nt.Ev
open Go Go.RowKit
section
variable {E : Env} {B : Own} {G0 : Known} {w0 : World} {s : St} {g : Gh} {a : Act} {w : World}
theorem srep_β {g : Gh} {β' : Nat → Option Nat} {d : Nat} (hβ : ∀ k, k ≠ d → β' k = g.β k) {x : V} {v : Value} (hx : hasBoxV d x = false) (h : srep g x v) : srep { g with β := β' } x v := by
  cases x with
  | box k off =>
    obtain ⟨b, hb, hv⟩ := h
    have hne : k ≠ d := fun e => by subst e; simp [hasBoxV] at hx
    exact ⟨b, (hβ k hne).trans hb, hv⟩
  | sl e sh ow xs => cases ow <;> exact h
  | eptr _ _ _ _ _ _ => exact h
  | _ => exact h
theorem trep_β {g : Gh} {β' : Nat → Option Nat} {d : Nat} (hβ : ∀ k, k ≠ d → β' k = g.β k) {x : V} {v : Value} (hx : x.hasBox d = false) (h : trep g x v) : trep { g with β := β' } x v := by
  cases x with
  | tup vs =>
    obtain ⟨a, rfl, h⟩ := h
    simp only [V.hasBox, List.any_eq_false] at hx
    exact ⟨a, rfl, h.mono fun y hy v hv => srep_β hβ (by have := hx y hy; simpa using this) hv⟩
  | fn f c =>
    obtain ⟨a, rfl, h⟩ := h
    simp only [V.hasBox, List.any_eq_false] at hx
    exact ⟨a, rfl, h.mono fun y hy v hv => srep_β hβ (by have := hx y hy; simpa using this) hv⟩
  | _ => simp only [trep] at h ⊢; exact srep_β hβ hx h
theorem noBox_fr {d : Nat} (h : s.noBox d = true) : ∀ x ∈ s.fr, x.hasBox d = false := by
  unfold St.noBox at h
  rw [Bool.and_eq_true, List.all_eq_true] at h
  exact fun x hx => bnot_true (h.1 x hx)
theorem noBox_bx {d : Nat} (h : s.noBox d = true) : ∀ k cs, lookBx s.bx k = some cs → k ≠ d ∧ ∀ x ∈ cs, x.hasBox d = false := by
  intro k cs hk
  unfold St.noBox at h
  rw [Bool.and_eq_true, List.all_eq_true, List.all_eq_true] at h
  have h2 := h.2 _ (lookBx_mem _ _ _ hk)
  simp only [Bool.and_eq_true, List.all_eq_true] at h2
  refine ⟨fun e => ?_, fun x hx => bnot_true (h2.2 x hx)⟩
  have := bnot_true h2.1
  subst e
  simp at this
theorem alloc_new {G : Known} (hG : GOk G w) (o : Obj) : New w (w.alloc o) G G := by
  refine ⟨below_alloc w o, fun _ _ => rfl, fun b l h => ?_⟩
  obtain ⟨c, e, fr, hc, ht⟩ := hG b l h
  exact ⟨c, e, fr, by rw [Below.heap_alloc w o b (known_lt hG h)]; exact hc, ht⟩
theorem Inv.newBox (h : Inv E B G0 w0 s g a w) {k e : Nat} {cs : List V} {c : Array Value} (hkH : k < HL) (hk : s.noBox k = true) (hp : PW (trep g) cs c.toList) (ho : ∀ u ∈ c.toList, u.oneCell' = true) (hcs : cs.all (fun v => bnot (v.hasBox k)) = true) (hq : isBld cs = true → isBldT E.P e cs.length = true) :
    ∃ g', Inv E B G0 w0 ⟨s.fr.set k (.box k 0), (k, cs) :: s.bx⟩ g' (a.put (some k) (.pointer (some ⟨w.heap.size, 0, none⟩))) (w.alloc (.cells c e)) := by
  obtain ⟨h1, hx⟩ := h.new (alloc_new h.gok (.cells c e))
  let β' : Nat → Option Nat := fun j => if j = k then some w.heap.size else g.β j
  have hβ : ∀ j, j ≠ k → β' j = g.β j := fun j hj => if_neg hj
  have hfr : PW (trep { g with β := β' }) s.fr a.tmps.toList := h1.fr.mono fun x hx v => trep_β hβ (noBox_fr hk x hx)
  rw [List.all_eq_true] at hcs
  refine ⟨{ g with β := β' }, by rw [act_put_list]; exact hfr.set k ⟨w.heap.size, if_pos rfl, rfl⟩, h1.df, h1.gok, h1.own, ⟨fun j ds hj => ?_, fun j j' ds ds' hj hj' hb => ?_⟩, h1.bel, h1.hB, ⟨h1.ext.1, h1.ext.2.1, fun j hj => (hβ j (by omega)).trans (h1.ext.2.2 j hj)⟩, h1.glob, h1.g1⟩
  · unfold lookBx at hj
    by_cases hjk : k = j
    · subst hjk
      rw [beq_self_eq_true, cond_true] at hj
      simp only [Option.some.injEq] at hj
      subst hj
      refine ⟨w.heap.size, c, e, if_pos rfl, h.hB.2 _ (Nat.le_refl _), heap_alloc_new w _, hp.mono fun x hx v => trep_β hβ (bnot_true (hcs x hx)), ho, ?_, hq⟩
      show g.G w.heap.size = none
      cases hq : g.G w.heap.size with
      | none => rfl
      | some l => have := known_lt h.gok hq; omega
    · have : (k == j) = false := by simpa using hjk
      rw [this, cond_false] at hj
      obtain ⟨b, c', e', hb, hBb, hh, hp', ho', hG, hq'⟩ := h1.bxs.1 j ds hj
      exact ⟨b, c', e', by show β' j = _; rw [hβ j (fun e => hjk e.symm)]; exact hb, hBb, hh, hp'.mono fun x hx v => trep_β hβ ((noBox_bx hk j ds hj).2 x hx), ho', hG, hq'⟩
  · unfold lookBx at hj hj'
    have hb : β' j = β' j' := hb
    by_cases hjk : k = j <;> by_cases hjk' : k = j'
    · rw [← hjk, ← hjk']
    · subst hjk
      have h3 : (k == j') = false := by simpa using hjk'
      rw [h3, cond_false] at hj'
      obtain ⟨b, c', e', hb', _, hh, _⟩ := h.bxs.1 j' ds' hj'
      have e1 : β' k = some w.heap.size := if_pos rfl
      rw [e1, hβ j' (fun e => hjk' e.symm), hb'] at hb
      simp only [Option.some.injEq] at hb
      have := (Array.getElem?_eq_some_iff.1 hh).1
      omega
    · subst hjk'
      have h3 : (k == j) = false := by simpa using hjk
      rw [h3, cond_false] at hj
      obtain ⟨b, c', e', hb', _, hh, _⟩ := h.bxs.1 j ds hj
      have e1 : β' k = some w.heap.size := if_pos rfl
      rw [e1, hβ j (fun e => hjk e.symm), hb'] at hb
      simp only [Option.some.injEq] at hb
      have := (Array.getElem?_eq_some_iff.1 hh).1
      omega
    · have h3 : (k == j) = false := by simpa using hjk
      have h4 : (k == j') = false := by simpa using hjk'
      rw [h3, cond_false] at hj
      rw [h4, cond_false] at hj'
      rw [hβ j (fun e => hjk e.symm), hβ j' (fun e => hjk' e.symm)] at hb
      exact h1.bxs.2 j j' ds ds' hj hj' hb
theorem look_setBx : ∀ (l : List (Nat × List V)) (k j : Nat) (ds old : List V), lookBx l k = some old → lookBx (setBx l k ds) j = if j = k then some ds else lookBx l j
  | [], k, j, ds, old, h => by cases h
  | (i, cs) :: l, k, j, ds, old, h => by
    unfold lookBx at h
    unfold setBx
    cases hi : i == k with
    | true =>
      rw [cond_true]
      unfold lookBx
      have e : i = k := by simpa using hi
      subst e
      by_cases hj : i = j
      · subst hj; simp
      · have : (i == j) = false := by simpa using hj
        rw [this, cond_false, cond_false, if_neg (fun e => hj e.symm)]
    | false =>
      rw [hi, cond_false] at h
      rw [cond_false]
      have hik : i ≠ k := by simpa using hi
      unfold lookBx
      rw [look_setBx l k j ds old h]
      by_cases hj : i = j
      · subst hj
        rw [beq_self_eq_true, cond_true, cond_true, if_neg hik]
      · have : (i == j) = false := by simpa using hj
        rw [this, cond_false, cond_false]
theorem Inv.store (h : Inv E B G0 w0 s g a w) {k off b e : Nat} {old vs : List V} {c : Array Value} {us : List Value} (hb : g.β k = some b) (hl : lookBx s.bx k = some old) (hh : w.heap[b]? = some (.cells c e (0, 0))) (hp : PW (trep g) old c.toList)
    (hv : PW (trep g) vs us) (ho : ∀ u ∈ us, u.oneCell' = true) (hle : off + vs.length ≤ old.length) (hq : isBld (over old off vs) = true → isBld old = true) :
    Inv E B G0 w0 ⟨s.fr, setBx s.bx k (over old off vs)⟩ g a (w.setRow b (c.toList.take off ++ us ++ c.toList.drop (off + us.length)).toArray) := by
  obtain ⟨b', c', e', hb', hBb, hh', hp', ho', hGb, hq0⟩ := h.bxs.1 k old hl
  rw [hb] at hb'
  simp only [Option.some.injEq] at hb'
  subst hb'
  rw [hh] at hh'
  simp only [Option.some.injEq, Obj.cells.injEq] at hh'
  obtain ⟨rfl, rfl, _⟩ := hh'
  have hset := setRow_heap w b c (c.toList.take off ++ us ++ c.toList.drop (off + us.length)).toArray e (0, 0) hh
  have hoth : ∀ j, j ≠ b → (w.setRow b (c.toList.take off ++ us ++ c.toList.drop (off + us.length)).toArray).heap[j]? = w.heap[j]? := fun j hj => setRow_other w b j _ hj
  have hsz : (w.setRow b (c.toList.take off ++ us ++ c.toList.drop (off + us.length)).toArray).heap.size = w.heap.size := by simp [World.setRow]
  have hkn : ∀ j l, g.G j = some l → j ≠ b := fun j l hj e => by subst e; rw [hGb] at hj; cases hj
  refine ⟨h.fr, h.df, fun j l hj => ?_, ⟨fun L v e2 sz hL => ?_, h.own.2⟩, ⟨fun j ds hj => ?_, fun j j' ds ds' hj hj' => ?_⟩, ?_, by rw [hsz]; exact h.hB, h.ext, h.glob, h.g1⟩
  · obtain ⟨c2, e2, fr, hc, ht⟩ := h.gok j l hj
    exact ⟨c2, e2, fr, by rw [hoth j (hkn j l hj)]; exact hc, ht⟩
  · obtain ⟨h1, h2⟩ := h.own.1 L v e2 sz hL
    refine ⟨h1, h2.imp id ?_⟩
    rintro ⟨j, n, cap, cur, l, hv, hj, hhj, hnc, hcm, hcs, hGj, hl⟩
    exact ⟨j, n, cap, cur, l, hv, hj, by rw [hoth j (hkn j l hGj)]; exact hhj, hnc, hcm, hcs, hGj, hl⟩
  · rw [look_setBx s.bx k j _ old hl] at hj
    split at hj
    · rename_i ejk
      subst ejk
      simp only [Option.some.injEq] at hj
      subst hj
      refine ⟨b, _, e, hb, hBb, hset, by simpa using over_pw hp hv off, fun u hu => ?_, hGb, fun hh => by rw [over_len hle]; exact hq0 (hq hh)⟩
      simp only [List.mem_append] at hu
      rcases hu with (hu | hu) | hu
      · exact ho' u (List.mem_of_mem_take hu)
      · exact ho u hu
      · exact ho' u (List.mem_of_mem_drop hu)
    · rename_i ejk
      obtain ⟨b2, c2, e2, hb2, hBb2, hh2, hp2, ho2, hG2, hq2⟩ := h.bxs.1 j ds hj
      have hne : b2 ≠ b := by
        intro e3
        subst e3
        exact ejk (h.bxs.2 j k ds old hj hl (hb2.trans hb.symm))
      exact ⟨b2, c2, e2, hb2, hBb2, by rw [hoth b2 hne]; exact hh2, hp2, ho2, hG2, hq2⟩
  · rw [look_setBx s.bx k _ _ old hl] at hj hj'
    refine fun hbb => ?_
    split at hj <;> split at hj'
    · rename_i e1 e2; rw [e1, e2]
    · rename_i e1 e2; subst e1; exact h.bxs.2 _ _ old ds' hl hj' hbb
    · rename_i e1 e2; subst e2; exact h.bxs.2 _ _ ds old hj hl hbb
    · exact h.bxs.2 _ _ ds ds' hj hj' hbb
  · refine h.bel.trans ⟨⟨rfl, rfl, rfl, by rw [hsz]; exact Nat.le_refl _, fun j hj => by omega⟩, fun j hj => hoth j fun e => hj (e ▸ hBb)⟩
theorem flatD_rep {G G' : Known} {x : V} {v : Value} (hx : flatD x = true) (h : rep G x v) : rep G' x v := by
  cases x <;> first | cases hx | skip
  all_goals (unfold rep at h ⊢; exact h)
theorem fit_flat {sh : List Kd} {x : V} (hs : sh.all flatK = true) (hf : fitsL sh x.cells = true) : ∀ c ∈ x.cells, flatD c = true := by
  have key : ∀ (sh : List Kd) (cs : List V), sh.all flatK = true → fitsL sh cs = true → ∀ c ∈ cs, flatD c = true := by
    intro sh
    induction sh with
    | nil => intro cs _ hf c hc; cases cs with
      | nil => cases hc
      | cons _ _ => simp [fitsL] at hf
    | cons k sh ih =>
      intro cs hs hf c hc
      cases cs with
      | nil => cases hc
      | cons y cs =>
        rw [List.all_cons, Bool.and_eq_true] at hs
        simp only [fitsL] at hf
        obtain ⟨h1, h2⟩ := band_true hf
        rcases List.mem_cons.1 hc with rfl | hc
        · cases k <;> first | (cases hs.1; done) | skip
          all_goals (cases c <;> first | rfl | (simp [fits] at h1))
        · exact ih cs hs.2 h2 c hc
  exact key sh x.cells hs hf
theorem flat_elem {G G' : Known} {sh : List Kd} {x : V} {u : Value} (hs : sh.all flatK = true) (hf : fitsE sh x = true) (h : rep G x u) : rep G' x u := by
  have hfl := fit_flat hs hf
  cases x with
  | agg cs =>
    unfold rep at h ⊢
    obtain ⟨a, rfl, h⟩ := h
    refine ⟨a, rfl, ?_⟩
    rw [repL_iff] at h ⊢
    exact h.mono fun y hy v hv => flatD_rep (hfl y hy) hv
  | _ => exact flatD_rep (hfl _ List.mem_cons_self) h
theorem repE_flat {G G' : Known} {sh : List Kd} (hs : sh.all flatK = true) : ∀ (xs : List V) (cells : List Value), repE G sh xs cells → repE G' sh xs cells
  | [], _, _ => repE_nil
  | x :: xs, cells, h => by
    unfold repE at h ⊢
    obtain ⟨hf, ⟨u, hu, hc⟩, ht⟩ := h
    exact ⟨hf, ⟨u, flat_elem hs hf hu, hc⟩, repE_flat hs xs _ ht⟩
theorem ownG_flat {G G' : Known} {sh : List Kd} {xs : List V} {v : Value} (hs : sh.all flatK = true) (h : ownG G sh xs v) (hb : ∀ b, v.ownBlock = some b → G' b = G b) : ownG G' sh xs v := by
  rcases h with h | ⟨b, cap, l, rfl, hcap, hG, hl, hr⟩
  · exact .inl h
  · exact .inr ⟨b, cap, l, rfl, hcap, by rw [hb b rfl]; exact hG, hl, repE_flat hs _ _ hr⟩
theorem updV_sl (L e : Nat) (k : List Kd) (ys : List V) (e' : Nat) (sh : List Kd) (j : Nat) (xs : List V) : updV L e k ys (.sl e' sh (some j) xs) = bif L == j then .sl e k (some L) ys else .sl e' sh (some j) xs := rfl
theorem updV_eptr (L e : Nat) (k : List Kd) (ys : List V) (j e' : Nat) (sh : List Kd) (xs : List V) (i : Int) (off : Nat) : updV L e k ys (.eptr j e' sh xs i off) = bif L == j then .eptr L e k ys i off else .eptr j e' sh xs i off := rfl
theorem forget_trep {g : Gh} {x : V} {v : Value} (h : trep g x v) : trep g x.forget v := by
  unfold V.forget
  cases x.flat
  · exact trep_any
  · exact h
theorem forget_nilp : ∀ x : V, x.forget = .nilp → x = .nilp := by
  intro x h
  unfold V.forget at h
  cases hf : x.flat <;> rw [hf] at h
  · cases h
  · exact h
theorem forget_flat (x : V) : x.forget.flat = true := by
  unfold V.forget
  cases hf : x.flat
  · rfl
  · exact hf
theorem Inv.forget (h : Inv E B G0 w0 s g a w) : Inv E B G0 w0 s.forget g a w := by
  have hl : ∀ k, lookBx s.forget.bx k = (lookBx s.bx k).map (List.map V.forget) := fun k => lookBx_map _ _ _
  refine ⟨map_pw h.fr fun z _ v hv => forget_trep hv, h.df, h.gok, h.own, ⟨fun k cs hk => ?_, fun k k' cs cs' h1 h2 => ?_⟩, h.bel, h.hB, h.ext, h.glob, h.g1⟩
  · rw [hl] at hk
    cases hq : lookBx s.bx k with
    | none => rw [hq] at hk; cases hk
    | some ds =>
      rw [hq] at hk
      simp only [Option.map_some, Option.some.injEq] at hk
      subst hk
      obtain ⟨b, c, e, hb, hBb, hh, hp, ho, hG, hq2⟩ := h.bxs.1 k ds hq
      exact ⟨b, c, e, hb, hBb, hh, map_pw hp fun z _ v hv => forget_trep hv, ho, hG, bldT_map forget_nilp hq2⟩
  · rw [hl] at h1 h2
    cases hq : lookBx s.bx k with
    | none => rw [hq] at h1; cases h1
    | some ds =>
      cases hq' : lookBx s.bx k' with
      | none => rw [hq'] at h2; cases h2
      | some ds' => exact h.bxs.2 k k' ds ds' hq hq'
theorem forget_noRef (s : St) : s.forget.noRef = true := by
  unfold St.noRef St.forget
  rw [Bool.and_eq_true, List.all_eq_true, List.all_eq_true]
  refine ⟨fun x hx => ?_, fun p hp => ?_⟩
  · obtain ⟨y, _, rfl⟩ := List.mem_map.1 hx
    exact forget_flat y
  · obtain ⟨q, _, rfl⟩ := List.mem_map.1 hp
    show (q.2.map V.forget).all V.flat = true
    rw [List.all_eq_true]
    intro x hx
    obtain ⟨y, _, rfl⟩ := List.mem_map.1 hx
    exact forget_flat y
theorem Inv.lput (h : Inv E B G0 w0 s g a w) {L e b i : Nat} {k : List Kd} {v0 u : Value} {c : Array Value} {l : List Value} {xs ys : List V} (hO : g.O L = some (v0, e, k.length)) (hb : v0.ownBlock = some b) (hh : w.heap[b]? = some (.cells c e (0, 0))) (hGb : g.G b = some l) (hi : i < l.length)
    (hown : ownG g.G k xs v0) (hys : ys.length = xs.length) (hk : k.all flatK = true) (hr : repE g.G k ys (l.set i u)) (hone : u.oneCell' = true) (hn : s.noRef = true) (hL : L < HL) :
    ∃ g', Inv E B G0 w0 (s.upd L e k ys) g' a (w.setRow b (c.toList.take i ++ [u] ++ c.toList.drop (i + 1)).toArray) := by
  have hBb : B.ok L b := by
    rcases (h.own.1 L v0 e k.length hO).2 with hv | ⟨b', n, cap, cur, l', hv, hB', _⟩
    · rw [hv] at hb; cases hb
    · rw [hv] at hb; simp [Value.ownBlock] at hb; subst hb; exact hB'
  obtain ⟨c0, e0, fr0, hc0, ht0⟩ := h.gok b l hGb
  rw [hh] at hc0
  simp only [Option.some.injEq, Obj.cells.injEq] at hc0
  obtain ⟨rfl, rfl, rfl⟩ := hc0
  have hil : i < c.toList.length := by
    have := congrArg List.length ht0
    rw [List.length_take] at this
    omega
  have hset : c.toList.take i ++ [u] ++ c.toList.drop (i + 1) = c.toList.set i u := by
    rw [List.set_eq_take_append_cons_drop, if_pos hil]; simp
  rw [hset]
  let G' : Known := fun j => if j = b then some (l.set i u) else g.G j
  have hG' : ∀ j, j ≠ b → G' j = g.G j := fun j hj => if_neg hj
  have hGs : G' b = some (l.set i u) := if_pos rfl
  have hnew := setRow_heap w b c (c.toList.set i u).toArray e (0, 0) hh
  have hoth : ∀ j, j ≠ b → (w.setRow b (c.toList.set i u).toArray).heap[j]? = w.heap[j]? := fun j hj => setRow_other w b j _ hj
  have hsz : (w.setRow b (c.toList.set i u).toArray).heap.size = w.heap.size := by simp [World.setRow]
  have hv0 : ownG G' k ys v0 := by
    rcases hown with ⟨hv, hx0⟩ | ⟨b', cap, l', hv, hcap, hGl, hll, hE⟩
    · rw [hv] at hb; cases hb
    · rw [hv] at hb
      simp only [Value.ownBlock, Option.some.injEq] at hb
      subst hb
      rw [hGb] at hGl
      simp only [Option.some.injEq] at hGl
      subst hGl
      exact .inr ⟨b', cap, l.set i u, by rw [hv, hys], by rw [hys]; exact hcap, hGs, by rw [List.length_set, hys]; exact hll, repE_flat hk _ _ hr⟩
  have hlenL : ∀ (sh : List Kd) (zs : List V), g.O L = some (v0, e, sh.length) → ownG g.G sh zs v0 → zs.length = xs.length := by
    intro sh zs _ hz
    rcases hz with ⟨hv, hz⟩ | ⟨b', cap, l', hv, _⟩
    · rw [hv] at hb; cases hb
    · rcases hown with ⟨hv2, _⟩ | ⟨b2, cap2, l2, hv2, _⟩
      · rw [hv2] at hb; cases hb
      · rw [hv] at hv2
        simp only [Value.slice.injEq] at hv2
        exact hv2.2.1
  have hother : ∀ j v e' sz b', j ≠ L → g.O j = some (v, e', sz) → v.ownBlock = some b' → b' ≠ b := by
    intro j v e' sz b' hj hOj hb' e1
    subst e1
    exact hj (h.own.2 j L v v0 e' e sz k.length b' hOj hO hb' hb)
  have hm1 : More g.G1 G' := fun j m hj => by
    obtain ⟨m1, q1, q2⟩ := h.g1 j m hj
    have hjb : j ≠ b := fun e => by have h1 := h.glob.2 j m1 q1; have h2 := hBb.2 hL; omega
    obtain ⟨m2, q3, q4⟩ := h.ext.2.1 j m1 q1
    exact ⟨m2, (hG' j hjb).trans q3, q2.trans q4⟩
  have hsrep : ∀ (y : V) (v : Value), flatC y = true → srep g y v → srep { g with G := G' } (updV L e k ys y) v := by
    intro y v hy hv
    cases y with
    | sl e' sh ow zs =>
      cases ow with
      | none => cases hy
      | some j =>
        rw [updV_sl]
        obtain ⟨p1, p2⟩ := hv
        by_cases hj : L = j
        · have e1 : (L == j) = true := by simpa using hj
          rw [e1, cond_true]
          subst hj
          rw [hO] at p1
          simp only [Option.some.injEq, Prod.mk.injEq] at p1
          obtain ⟨rfl, rfl, _⟩ := p1
          exact ⟨hO, hv0⟩
        · have e1 : (L == j) = false := by simpa using hj
          rw [e1, cond_false]
          exact ⟨p1, ownG_flat hy p2 fun b' hb' => hG' b' (hother j v e' _ b' (fun e => hj e.symm) p1 hb')⟩
    | eptr j e' sh zs q off =>
      rw [updV_eptr]
      obtain ⟨v1, b1, p1, p2, p3, p4, p5, p6⟩ := hv
      by_cases hj : L = j
      · have e1 : (L == j) = true := by simpa using hj
        rw [e1, cond_true]
        subst hj
        have p1' := p1
        rw [hO] at p1
        simp only [Option.some.injEq, Prod.mk.injEq] at p1
        obtain ⟨rfl, rfl, hsl⟩ := p1
        have hzl := hlenL sh zs p1' p2
        refine ⟨v0, b1, hO, hv0, p3, by rw [hys]; omega, p5, ?_⟩
        rw [p6, hsl]
      · have e1 : (L == j) = false := by simpa using hj
        rw [e1, cond_false]
        exact ⟨v1, b1, p1, ownG_flat hy p2 fun b' hb' => hG' b' (hother j v1 e' _ b' (fun e => hj e.symm) p1 hb'), p3, p4, p5, p6⟩
    | box j off => exact hv
    | old x => exact ⟨hv.1, rep_more hm1 _ _ hv.1, hv.2.2⟩
    | any => show rep G' .any v; unfold rep; trivial
    | bool _ => exact flatD_rep (G := g.G) rfl hv
    | int _ _ => exact flatD_rep (G := g.G) rfl hv
    | str _ => exact flatD_rep (G := g.G) rfl hv
    | nilsl => exact flatD_rep (G := g.G) rfl hv
    | nilif => exact flatD_rep (G := g.G) rfl hv
    | nilp => exact flatD_rep (G := g.G) rfl hv
    | iface _ _ => cases hy
    | bxa _ _ => cases hy
    | out _ _ _ => cases hy
    | cho _ _ _ => cases hy
    | agg _ => cases hy
    | tup _ => cases hy
    | rptr _ _ _ => cases hy
    | fn _ _ => cases hy
  have htrep : ∀ (y : V) (v : Value), y.flat = true → trep g y v → trep { g with G := G' } (y.upd L e k ys) v := by
    intro y v hy hv
    cases y with
    | tup vs =>
      obtain ⟨a, rfl, p⟩ := hv
      have hy : vs.all flatC = true := hy
      rw [List.all_eq_true] at hy
      exact ⟨a, rfl, map_pw p fun z hz v hv => hsrep z v (hy z hz) hv⟩
    | fn f vs =>
      obtain ⟨a, rfl, p⟩ := hv
      have hy : vs.all flatC = true := hy
      rw [List.all_eq_true] at hy
      exact ⟨a, rfl, map_pw p fun z hz v hv => hsrep z v (hy z hz) hv⟩
    | agg cs =>
      obtain ⟨a, rfl, p⟩ := trep_agg.1 hv
      have hy : cs.all flatD = true := hy
      rw [List.all_eq_true] at hy
      exact trep_agg.2 ⟨a, rfl, p.mono fun z hz v hv => flatD_rep (hy z hz) hv⟩
    | sl e' sh ow zs =>
      have h2 := hsrep (.sl e' sh ow zs) v hy (trep_single (x := .sl e' sh ow zs) rfl hv)
      refine srep_trep ?_ h2
      cases ow with
      | none => cases hy
      | some j => show (updV L e k ys (V.sl e' sh (some j) zs)).single = true; rw [updV_sl]; cases L == j <;> rfl
    | eptr j e' sh zs q off =>
      have h2 := hsrep (.eptr j e' sh zs q off) v hy (trep_single (x := .eptr j e' sh zs q off) rfl hv)
      refine srep_trep ?_ h2
      show (updV L e k ys (V.eptr j e' sh zs q off)).single = true
      rw [updV_eptr]; cases L == j <;> rfl
    | any => exact srep_trep rfl (hsrep (.any) v rfl (trep_single (x := .any) rfl hv))
    | bool q => exact srep_trep rfl (hsrep (.bool q) v rfl (trep_single (x := .bool q) rfl hv))
    | int q r => exact srep_trep rfl (hsrep (.int q r) v rfl (trep_single (x := .int q r) rfl hv))
    | str q => exact srep_trep rfl (hsrep (.str q) v rfl (trep_single (x := .str q) rfl hv))
    | nilsl => exact srep_trep rfl (hsrep (.nilsl) v rfl (trep_single (x := .nilsl) rfl hv))
    | nilif => exact srep_trep rfl (hsrep (.nilif) v rfl (trep_single (x := .nilif) rfl hv))
    | nilp => exact srep_trep rfl (hsrep (.nilp) v rfl (trep_single (x := .nilp) rfl hv))
    | iface _ _ => cases hy
    | bxa _ _ => cases hy
    | out _ _ _ => cases hy
    | cho _ _ _ => cases hy
    | box q r => exact srep_trep rfl (hsrep (.box q r) v rfl (trep_single (x := .box q r) rfl hv))
    | old q => exact srep_trep rfl (hsrep (.old q) v rfl (trep_single (x := .old q) rfl hv))
    | rptr _ _ _ => cases hy
  unfold St.noRef at hn
  rw [Bool.and_eq_true, List.all_eq_true, List.all_eq_true] at hn
  obtain ⟨n1, n2⟩ := hn
  refine ⟨{ g with G := G' }, map_pw h.fr fun y hy v hv => htrep y v (n1 y hy) hv, h.df, fun j m hj => ?_, ⟨fun j v e2 sz hj => ?_, h.own.2⟩, ⟨fun j ds hj => ?_, fun j j' ds ds' hj hj' => ?_⟩, ?_, by rw [hsz]; exact h.hB, ⟨fun j hj => (hG' j fun e => hj (e ▸ hBb.1)).trans (h.ext.1 j hj), fun j m hj => by
    have hjb : j ≠ b := fun e => by have h1 := h.glob.2 j m hj; have h2 := hBb.2 hL; omega
    obtain ⟨m', h1, h2⟩ := h.ext.2.1 j m hj
    exact ⟨m', by show G' j = _; rw [hG' j hjb]; exact h1, h2⟩, h.ext.2.2⟩, h.glob, h.g1⟩
  · by_cases hjb : j = b
    · subst hjb
      have hj : G' j = some m := hj
      rw [hGs] at hj
      simp only [Option.some.injEq] at hj
      subst hj
      refine ⟨_, _, _, hnew, ?_⟩
      rw [List.length_set, List.toList_toArray]
      rw [List.take_set, ht0]
    · have hj : G' j = some m := hj
      rw [hG' j hjb] at hj
      obtain ⟨c2, e2, fr, hc, ht⟩ := h.gok j m hj
      exact ⟨c2, e2, fr, by rw [hoth j hjb]; exact hc, ht⟩
  · obtain ⟨q1, q2⟩ := h.own.1 j v e2 sz hj
    refine ⟨q1, q2.imp id ?_⟩
    rintro ⟨b', n, cap, cur, m, hv, hB', hhb, hnc, hcm, hcs, hGj, hl⟩
    by_cases hjb : b' = b
    · subst hjb
      rw [hh] at hhb
      simp only [Option.some.injEq, Obj.cells.injEq] at hhb
      obtain ⟨rfl, rfl, _⟩ := hhb
      rw [hGb] at hGj
      simp only [Option.some.injEq] at hGj
      subst hGj
      exact ⟨b', n, cap, _, _, hv, hB', hnew, hnc, hcm, by simpa using hcs, hGs, by simpa using hl⟩
    · exact ⟨b', n, cap, cur, m, hv, hB', by rw [hoth b' hjb]; exact hhb, hnc, hcm, hcs, by show G' b' = _; rw [hG' b' hjb]; exact hGj, hl⟩
  · have hj : lookBx (s.bx.map fun (q, cs) => (q, cs.map (V.upd L e k ys))) j = some ds := hj
    rw [lookBx_map] at hj
    cases hq : lookBx s.bx j with
    | none => rw [hq] at hj; cases hj
    | some cs =>
      rw [hq] at hj
      simp only [Option.map_some, Option.some.injEq] at hj
      subst hj
      obtain ⟨b', c', e', p1, p2, p3, p4, p5, p6, p7⟩ := h.bxs.1 j cs hq
      have hne : b' ≠ b := fun e1 => by subst e1; rw [hGb] at p6; cases p6
      have hfl := n2 _ (lookBx_mem _ _ _ hq)
      simp only [List.all_eq_true] at hfl
      exact ⟨b', c', e', p1, p2, by rw [hoth b' hne]; exact p3, map_pw p4 fun y hy v hv => htrep y v (hfl y hy) hv, p5, by show G' b' = none; rw [hG' b' hne]; exact p6, bldT_map (upd_nilp _ _ _ _) p7⟩
  · have hj : lookBx (s.bx.map fun (q, cs) => (q, cs.map (V.upd L e k ys))) j = some ds := hj
    have hj' : lookBx (s.bx.map fun (q, cs) => (q, cs.map (V.upd L e k ys))) j' = some ds' := hj'
    rw [lookBx_map] at hj hj'
    cases hq : lookBx s.bx j with
    | none => rw [hq] at hj; cases hj
    | some cs =>
      cases hq' : lookBx s.bx j' with
      | none => rw [hq'] at hj'; cases hj'
      | some cs' => exact h.bxs.2 j j' cs cs' hq hq'
  · refine h.bel.trans ⟨⟨rfl, rfl, rfl, by rw [hsz]; exact Nat.le_refl _, fun j hj => by omega⟩, fun j hj => hoth j fun e => hj (e ▸ hBb.1)⟩
theorem canonV_sl (L i e : Nat) (sh : List Kd) (k : Nat) (xs : List V) : canonV L i (.sl e sh (some k) xs) = bif L == k then .sl e sh (some i) xs else .sl e sh (some k) xs := rfl
theorem canonV_eptr (L i k e : Nat) (sh : List Kd) (xs : List V) (j : Int) (off : Nat) : canonV L i (.eptr k e sh xs j off) = bif L == k then .eptr i e sh xs j off else .eptr k e sh xs j off := rfl
theorem canonV_srep {g : Gh} {O' : Nat → Option (Value × Nat × Nat)} {L i : Nat} (hi : O' i = g.O L) (hO : ∀ k, k ≠ L → k ≠ i → O' k = g.O k) {x : V} {v : Value} (hx : hasLabelV i x = false) (h : srep g x v) : srep { g with O := O' } (canonV L i x) v := by
  cases x with
  | sl e sh ow xs =>
    cases ow with
    | none => exact h
    | some k =>
      rw [canonV_sl]
      by_cases hk : L = k
      · have : (L == k) = true := by simpa using hk
        rw [this]
        subst hk
        exact ⟨hi.trans h.1, h.2⟩
      · have : (L == k) = false := by simpa using hk
        rw [this]
        have hki : k ≠ i := fun e => by subst e; simp [hasLabelV] at hx
        exact ⟨(hO k (fun e => hk e.symm) hki).trans h.1, h.2⟩
  | eptr k e sh xs j off =>
    rw [canonV_eptr]
    obtain ⟨v0, b, h1, h2⟩ := h
    by_cases hk : L = k
    · have : (L == k) = true := by simpa using hk
      rw [this]
      subst hk
      exact ⟨v0, b, hi.trans h1, h2⟩
    · have : (L == k) = false := by simpa using hk
      rw [this]
      have hki : k ≠ i := fun e => by subst e; simp [hasLabelV] at hx
      exact ⟨v0, b, (hO k (fun e => hk e.symm) hki).trans h1, h2⟩
  | _ => exact h
theorem canonV_single {L i : Nat} {x : V} (h : x.single = true) : (canonV L i x).single = true := by
  cases x with
  | sl e sh ow xs =>
    cases ow with
    | none => rfl
    | some k => rw [canonV_sl]; cases L == k <;> rfl
  | eptr k e sh xs j off => rw [canonV_eptr]; cases L == k <;> rfl
  | tup _ => cases h
  | fn _ _ => cases h
  | _ => rfl
theorem canon_trep {g : Gh} {O' : Nat → Option (Value × Nat × Nat)} {L i : Nat} (hi : O' i = g.O L) (hO : ∀ k, k ≠ L → k ≠ i → O' k = g.O k) {x : V} {v : Value} (hx : x.hasLabel i = false) (h : trep g x v) : trep { g with O := O' } (x.canon L i) v := by
  cases x with
  | tup vs =>
    obtain ⟨a, rfl, h⟩ := h
    simp only [V.hasLabel, List.any_eq_false] at hx
    exact ⟨a, rfl, map_pw h fun y hy v hv => canonV_srep hi hO (by have := hx y hy; simpa using this) hv⟩
  | fn f c =>
    obtain ⟨a, rfl, h⟩ := h
    simp only [V.hasLabel, List.any_eq_false] at hx
    exact ⟨a, rfl, map_pw h fun y hy v hv => canonV_srep hi hO (by have := hx y hy; simpa using this) hv⟩
  | sl e sh ow xs => exact srep_trep (canonV_single rfl) (canonV_srep hi hO hx (trep_single rfl h))
  | eptr k e sh xs j off => exact srep_trep (canonV_single (x := .eptr k e sh xs j off) rfl) (canonV_srep (x := .eptr k e sh xs j off) hi hO hx (trep_single (x := .eptr k e sh xs j off) rfl h))
  | _ => simp only [trep, V.hasLabel] at h hx ⊢; exact canonV_srep hi hO hx h
theorem Inv.canon (h : Inv E B G0 w0 s g a w) {L i : Nat} (hne : L ≠ i) (hcl : i < HL → L < HL) (hi : s.noLabel i = true) : ∃ g', Inv E B G0 w0 (s.canon L i) g' a w := by
  let O' : Nat → Option (Value × Nat × Nat) := fun k => if k = i then g.O L else if k = L then none else g.O k
  have h1 : O' i = g.O L := if_pos rfl
  have h2 : ∀ k, k ≠ L → k ≠ i → O' k = g.O k := fun k hk hki => by show (if k = i then g.O L else if k = L then none else g.O k) = _; rw [if_neg hki, if_neg hk]
  have hinv : ∀ k x, O' k = some x → ∃ j, g.O j = some x ∧ (j = if k = i then L else k) := by
    intro k x hk
    have hk : (if k = i then g.O L else if k = L then none else g.O k) = some x := hk
    split at hk
    · rename_i e; exact ⟨L, hk, by rw [if_pos e]⟩
    · rename_i e
      split at hk
      · cases hk
      · exact ⟨k, hk, by rw [if_neg e]⟩
  refine ⟨{ g with O := O' }, map_pw h.fr fun x hx v => canon_trep h1 h2 (noLabel_fr hi x hx), h.df, h.gok, ⟨fun k v e sz hk => ?_, fun k k' v v' e e' sz sz' b hk hk' hb hb' => ?_⟩, ⟨fun k cs hk => ?_, fun k k' cs cs' hk hk' => ?_⟩, h.bel, h.hB, h.ext, h.glob, h.g1⟩
  · obtain ⟨j, hj, ej⟩ := hinv k _ hk
    have h1 := h.own.1 j v e sz hj
    refine ⟨h1.1, h1.2.imp id ?_⟩
    rintro ⟨b, n, cap, cur, l, hv, hb, rest⟩
    refine ⟨b, n, cap, cur, l, hv, ⟨hb.1, fun hk => hb.2 ?_⟩, rest⟩
    rw [ej]
    split
    · rename_i e; exact hcl (e ▸ hk)
    · exact hk
  · have hkL : ∀ k x, O' k = some x → k ≠ L := by
      intro k x hk e
      subst e
      have hk : (if k = i then g.O k else if k = k then none else g.O k) = some x := hk
      rw [if_neg hne, if_pos rfl] at hk
      cases hk
    obtain ⟨j, hj, ej⟩ := hinv k _ hk
    obtain ⟨j', hj', ej'⟩ := hinv k' _ hk'
    have hjj := h.own.2 j j' v v' e e' sz sz' b hj hj' hb hb'
    have hk1 := hkL k _ hk
    have hk2 := hkL k' _ hk'
    by_cases c1 : k = i <;> by_cases c2 : k' = i
    · rw [c1, c2]
    · rw [if_pos c1] at ej; rw [if_neg c2] at ej'; omega
    · rw [if_neg c1] at ej; rw [if_pos c2] at ej'; omega
    · rw [if_neg c1] at ej; rw [if_neg c2] at ej'; omega
  · have hk : lookBx (s.bx.map fun (k, cs) => (k, cs.map (V.canon L i))) k = some cs := hk
    rw [lookBx_map] at hk
    cases hq : lookBx s.bx k with
    | none => rw [hq] at hk; cases hk
    | some ds =>
      rw [hq] at hk
      simp only [Option.map_some, Option.some.injEq] at hk
      subst hk
      obtain ⟨b, c, e, hb, hBb, hh, hp, ho, hG, hq2⟩ := h.bxs.1 k ds hq
      exact ⟨b, c, e, hb, hBb, hh, map_pw hp fun x hx v => canon_trep h1 h2 (noLabel_bx hi k ds hq x hx), ho, hG, bldT_map (canon_nilp _ _) hq2⟩
  · have hk : lookBx (s.bx.map fun (k, cs) => (k, cs.map (V.canon L i))) k = some cs := hk
    have hk' : lookBx (s.bx.map fun (k, cs) => (k, cs.map (V.canon L i))) k' = some cs' := hk'
    rw [lookBx_map] at hk hk'
    cases hq : lookBx s.bx k with
    | none => rw [hq] at hk; cases hk
    | some ds =>
      cases hq' : lookBx s.bx k' with
      | none => rw [hq'] at hk'; cases hk'
      | some ds' => exact h.bxs.2 k k' ds ds' hq hq'
theorem Inv.less (h : Inv E B G0 w0 s g a w) {fr : List V} {bx : List (Nat × List V)} (hf : PW (trep g) fr a.tmps.toList) (hb : ∀ k cs, lookBx bx k = some cs → lookBx s.bx k = some cs) : Inv E B G0 w0 ⟨fr, bx⟩ g a w :=
  ⟨hf, h.df, h.gok, h.own, ⟨fun k cs hk => h.bxs.1 k cs (hb k cs hk), fun k k' cs cs' hk hk' => h.bxs.2 k k' cs cs' (hb k cs hk) (hb k' cs' hk')⟩, h.bel, h.hB, h.ext, h.glob, h.g1⟩
theorem maskFr_pw {g : Gh} (mask : List Nat) : ∀ (xs : List V) (vs : List Value) (i : Nat), PW (trep g) xs vs → PW (trep g) (maskFr mask xs i) vs
  | [], vs, i, h => by rw [h.nil_iff]; exact .nil
  | x :: xs, vs, i, h => by
    obtain ⟨v, t, rfl, h1, h2⟩ := h.cons_inv
    unfold maskFr
    refine .cons ?_ (maskFr_pw mask xs t (i + 1) h2)
    cases mask.contains i
    · exact h1
    · exact trep_any
theorem look_filter (q : Nat → Bool) : ∀ (l : List (Nat × List V)) (k : Nat) (cs : List V), lookBx (l.filter fun (k, _) => q k) k = some cs → lookBx l k = some cs
  | [], k, cs, h => by cases h
  | (j, ds) :: l, k, cs, h => by
    have ih := look_filter q l k cs
    simp only [List.filter_cons] at h
    unfold lookBx
    cases hj : j == k with
    | true =>
      have e : j = k := by simpa using hj
      subst e
      rw [cond_true]
      cases hq : q j with
      | true =>
        rw [hq, if_pos rfl] at h
        unfold lookBx at h
        rw [hj, cond_true] at h
        exact h
      | false =>
        rw [hq, if_neg (by decide)] at h
        exfalso
        have : ∀ (l : List (Nat × List V)), lookBx (l.filter fun (k, _) => q k) j = none := by
          intro l
          induction l with
          | nil => rfl
          | cons p l ih =>
            obtain ⟨i, es⟩ := p
            simp only [List.filter_cons]
            by_cases hi : q i = true
            · rw [if_pos hi]
              unfold lookBx
              have : (i == j) = false := by
                rw [beq_eq_false_iff_ne]; intro e; subst e; rw [hi] at hq; cases hq
              rw [this, cond_false]
              exact ih
            · rw [if_neg hi]; exact ih
        rw [this l] at h
        cases h
    | false =>
      rw [cond_false]
      cases hq : q j with
      | true =>
        rw [hq, if_pos rfl] at h
        unfold lookBx at h
        rw [hj, cond_false] at h
        exact ih h
      | false =>
        rw [hq, if_neg (by decide)] at h
        exact ih h
theorem cls_lt {L i : Nat} (hi : i < HL) (h : clsN true L i < HL) : L < HL := by
  unfold clsN at h
  rw [Bool.true_and] at h
  cases hq : Nat.ble HL L with
  | true => rw [hq, cond_true] at h; omega
  | false =>
    refine Nat.lt_of_not_le fun e => ?_
    rw [Nat.ble_eq_true_of_le e] at hq
    cases hq
theorem canonFrom_inv : ∀ (fr : List V) (i : Nat) (done : List Nat) (s : St) (g : Gh), Inv E B G0 w0 s g a w → ∃ g', Inv E B G0 w0 (canonFrom fr i done s) g' a w := by
  intro fr
  induction fr with
  | nil => intro i done s g h; exact ⟨g, h⟩
  | cons x fr ih =>
    intro i done s g h
    cases x with
    | sl e sh ow xs =>
      cases ow with
      | none => unfold canonFrom; exact ih _ _ _ _ h
      | some L =>
        unfold canonFrom
        cases hd : (done.contains L || L == clsN true L i) with
        | true => rw [cond_true]; exact ih _ _ _ _ h
        | false =>
          rw [cond_false]
          cases hn : (s.noLabel (clsN true L i) && Nat.blt i HL) with
          | false => rw [cond_false]; exact ih _ _ _ _ h
          | true =>
            rw [cond_true]
            rw [Bool.and_eq_true] at hn
            have hne : L ≠ clsN true L i := by
              intro e
              rw [Bool.or_eq_false_iff, beq_eq_false_iff_ne] at hd
              exact hd.2 e
            obtain ⟨g', h'⟩ := h.canon hne (cls_lt (nb_lt hn.2)) hn.1
            exact ih _ _ _ _ h'
    | _ => unfold canonFrom; exact ih _ _ _ _ h
theorem canonB_inv (b : Nat) : ∀ (cs : List V) (i : Nat) (s : St) (g : Gh), Inv E B G0 w0 s g a w → ∃ g', Inv E B G0 w0 (canonB b cs i s) g' a w := by
  intro cs
  induction cs with
  | nil => intro i s g h; exact ⟨g, h⟩
  | cons x cs ih =>
    intro i s g h
    cases x with
    | sl e sh ow xs =>
      cases ow with
      | none => unfold canonB; exact ih _ _ _ h
      | some L =>
        unfold canonB
        cases hd : (L == clsN true L (b + i) || s.fr.any (fun v => v.hasLabel L)) with
        | true => rw [cond_true]; exact ih _ _ _ h
        | false =>
          rw [cond_false]
          cases hn : (s.noLabel (clsN true L (b + i)) && Nat.blt (b + i) HL) with
          | false => rw [cond_false]; exact ih _ _ _ h
          | true =>
            rw [cond_true]
            rw [Bool.and_eq_true] at hn
            have hne : L ≠ clsN true L (b + i) := by
              intro e
              rw [Bool.or_eq_false_iff, beq_eq_false_iff_ne] at hd
              exact hd.1 e
            obtain ⟨g', h'⟩ := h.canon hne (cls_lt (nb_lt hn.2)) hn.1
            exact ih _ _ _ h'
    | _ => unfold canonB; exact ih _ _ _ h
theorem canonBs_inv : ∀ (bx : List (Nat × List V)) (s : St) (g : Gh), Inv E B G0 w0 s g a w → ∃ g', Inv E B G0 w0 (canonBs bx s) g' a w := by
  intro bx
  induction bx with
  | nil => intro s g h; exact ⟨g, h⟩
  | cons p bx ih =>
    intro s g h
    unfold canonBs
    obtain ⟨g', h'⟩ := canonB_inv _ _ 0 s g h
    exact ih _ _ h'
theorem Inv.head (h : Inv E B G0 w0 s g a w) (mask : List Nat) : ∃ g', Inv E B G0 w0 (headSt mask s) g' a w := by
  unfold headSt
  rw [forceM_eq]
  obtain ⟨g1, h1⟩ := canonFrom_inv (maskFr mask s.fr 0) 0 [] _ _ (h.less (maskFr_pw mask _ _ 0 h.fr) fun k cs hk => look_filter (fun k => !mask.contains k || (maskFr mask s.fr 0).any (V.hasBox k)) _ _ _ hk)
  exact canonBs_inv _ _ _ h1
end
end Nt.Ev

namespace Nt.Ev
open Go Go.RowKit
theorem lk_mem : ∀ {m : List (Nat × Nat)} {k v : Nat}, lk m k = some v → (k, v) ∈ m
  | [], k, v, h => by cases h
  | (a, b) :: m, k, v, h => by
    unfold lk at h
    cases hk : a == k with
    | true =>
      rw [hk, cond_true] at h
      simp only [Option.some.injEq] at h
      obtain rfl : a = k := by simpa using hk
      subst h
      exact List.mem_cons_self
    | false =>
      rw [hk, cond_false] at h
      exact List.mem_cons_of_mem _ (lk_mem h)
theorem nodupN_iff : ∀ (l : List Nat), nodupN l = true ↔ l.Nodup
  | [] => by simp [nodupN]
  | a :: l => by
    unfold nodupN
    rw [List.nodup_cons, ← nodupN_iff l]
    cases hc : l.contains a with
    | true => simp at hc; simp [hc]
    | false => simp at hc; simp [hc]
theorem lk_of_mem : ∀ {m : List (Nat × Nat)} {k v : Nat}, (m.map (·.1)).Nodup → (k, v) ∈ m → lk m k = some v
  | [], k, v, _, h => by cases h
  | (a, b) :: m, k, v, hn, h => by
    rw [List.map_cons, List.nodup_cons] at hn
    unfold lk
    rcases List.mem_cons.1 h with h | h
    · simp only [Prod.mk.injEq] at h
      obtain ⟨rfl, rfl⟩ := h
      rw [beq_self_eq_true, cond_true]
    · have hne : a ≠ k := fun e => hn.1 (List.mem_map.2 ⟨_, h, e.symm⟩)
      have : (a == k) = false := by simpa using hne
      rw [this, cond_false]
      exact lk_of_mem hn.2 h
theorem swap_keys (m : List (Nat × Nat)) : (swapL m).map (·.1) = m.map (·.2) := by simp [swapL, Function.comp_def]
theorem swap_mem {m : List (Nat × Nat)} {a b : Nat} : (a, b) ∈ swapL m ↔ (b, a) ∈ m := by
  unfold swapL
  rw [List.mem_map]
  constructor
  · rintro ⟨⟨x, y⟩, h1, h2⟩; simp only [Prod.mk.injEq] at h2; obtain ⟨rfl, rfl⟩ := h2; exact h1
  · intro h; exact ⟨_, h, rfl⟩
theorem lk_swap {m : List (Nat × Nat)} {k v : Nat} (hn : (m.map (·.2)).Nodup) (h : (k, v) ∈ m) : lk (swapL m) v = some k := lk_of_mem (by rw [swap_keys]; exact hn) (swap_mem.2 h)
theorem mem_inj1 {m : List (Nat × Nat)} {k v v' : Nat} (hn : (m.map (·.1)).Nodup) (h : (k, v) ∈ m) (h' : (k, v') ∈ m) : v = v' := by
  have h1 := lk_of_mem hn h
  rw [lk_of_mem hn h'] at h1
  simp only [Option.some.injEq] at h1
  exact h1.symm
theorem renV_srep {g g' : Gh} {mb ml : List (Nat × Nat)} (hG : g'.G = g.G) (hO : ∀ L n, lk ml L = some n → g'.O n = g.O L) (hβ : ∀ k n, lk mb k = some n → g'.β n = g.β k) {x : V} {v : Value} (h : srep g x v) : srep g' (renV mb ml x) v := by
  cases x with
  | sl e sh ow xs =>
    cases ow with
    | none => show rep g'.G _ _; rw [hG]; exact h
    | some L =>
      show srep g' (.sl e sh (lk ml L) xs) v
      obtain ⟨h1, h2⟩ := h
      cases hl : lk ml L with
      | none => show rep g'.G _ _; rw [hG]; exact ownG_rep h2
      | some n => exact ⟨(hO L n hl).trans h1, by rw [hG]; exact h2⟩
  | eptr _ _ _ _ _ _ => show rep g'.G .any v; unfold rep; trivial
  | box k off =>
    show srep g' (match lk mb k with | some k' => .box k' off | none => .any) v
    obtain ⟨b, h1, h2⟩ := h
    cases hl : lk mb k with
    | none => show rep g'.G .any v; unfold rep; trivial
    | some n => exact ⟨b, (hβ k n hl).trans h1, h2⟩
  | fn f caps =>
    cases caps with
    | nil => show rep g'.G _ _; rw [hG]; exact h
    | cons a c => show rep g'.G .any v; unfold rep; trivial
  | old x =>
    show srep g' (bif x.oldable then x else .any) v
    cases x.oldable
    · show rep g'.G .any v; unfold rep; trivial
    · exact srep_of_rep h.2.2 (by rw [hG]; exact h.2.1)
  | _ => show rep g'.G _ _; rw [hG]; exact h
theorem renV_single {mb ml : List (Nat × Nat)} {x : V} (hx : x.single = true) (hf : ∀ f c, x ≠ .fn f c) (ho : ∀ y, x ≠ .old y := by intro y e; cases e) : (renV mb ml x).single = true := by
  cases x with
  | sl e sh ow xs => cases ow <;> rfl
  | box k off => show (match lk mb k with | some k' => V.box k' off | none => V.any).single = true; cases lk mb k <;> rfl
  | tup _ => cases hx
  | fn f c => exact absurd rfl (hf f c)
  | old y => exact absurd rfl (ho y)
  | _ => rfl
theorem ren_trep {g g' : Gh} {mb ml : List (Nat × Nat)} (hG : g'.G = g.G) (hO : ∀ L n, lk ml L = some n → g'.O n = g.O L) (hβ : ∀ k n, lk mb k = some n → g'.β n = g.β k) {x : V} {v : Value} (h : trep g x v) : trep g' (x.ren mb ml) v := by
  cases x with
  | tup vs =>
    obtain ⟨a, rfl, h⟩ := h
    exact ⟨a, rfl, map_pw h fun y _ v hv => renV_srep hG hO hβ hv⟩
  | fn f caps =>
    cases caps with
    | nil => obtain ⟨a, rfl, h⟩ := h; exact ⟨[], by rw [h.nil_iff], .nil⟩
    | cons a c => exact trep_any
  | sl e sh ow xs => exact srep_trep (renV_single (x := .sl e sh ow xs) rfl (by intro f c e; cases e)) (renV_srep hG hO hβ (trep_single (x := .sl e sh ow xs) rfl h))
  | box k off => exact srep_trep (renV_single (ml := ml) (x := .box k off) rfl (by intro f c e; cases e)) (renV_srep hG hO hβ (trep_single (x := .box k off) rfl h))
  | eptr _ _ _ _ _ _ => exact trep_any
  | old x =>
    show trep g' (bif x.oldable then x else .any) v
    cases x.oldable
    · exact trep_any
    · exact trep_of_rep h.2.2 (by rw [hG]; exact h.2.1)
  | _ => simp only [trep] at h; exact renV_srep (x := _) hG hO hβ h
theorem scanL_cls {nm : Nat → Nat → Nat} : ∀ (i : Nat) (l : List V) (p : Nat × Nat), p ∈ scanL nm i l → ∃ j, p.2 = nm p.1 j
  | i, [], p, h => by cases h
  | i, x :: l, p, h => by
    cases x with
    | sl e sh ow xs =>
      cases ow with
      | none => exact scanL_cls (i + 1) l p h
      | some L =>
        rcases List.mem_cons.1 h with h | h
        · subst h; exact ⟨i, rfl⟩
        · exact scanL_cls (i + 1) l p h
    | _ => exact scanL_cls (i + 1) l p h
theorem handN_mb {bx : List (Nat × List V)} {j : Nat} {x : V} {p : Nat × Nat} (h : p ∈ (handN bx j x).1) : p.2 = HL + j ∧ ∃ cs, lookBx bx p.1 = some cs := by
  cases x with
  | box k off =>
    unfold handN at h
    simp only at h
    split at h
    · rename_i cs hc
      simp only [List.mem_singleton] at h
      subst h
      exact ⟨rfl, cs, hc⟩
    · cases h
  | sl e sh ow xs => cases ow <;> cases h
  | _ => cases h
theorem handNs_mb {bx : List (Nat × List V)} : ∀ (vs : List V) (j : Nat) {p : Nat × Nat}, p ∈ (handNs bx j vs).1 → (∃ j', j ≤ j' ∧ p.2 = HL + j') ∧ ∃ cs, lookBx bx p.1 = some cs
  | [], j, p, h => by cases h
  | x :: vs, j, p, h => by
    unfold handNs at h
    rcases List.mem_append.1 h with h | h
    · obtain ⟨h1, h2⟩ := handN_mb h; exact ⟨⟨j, Nat.le_refl _, h1⟩, h2⟩
    · obtain ⟨⟨j', h1, h2⟩, h3⟩ := handNs_mb vs (j + 1) h; exact ⟨⟨j', by omega, h2⟩, h3⟩
theorem handN_ml {bx : List (Nat × List V)} {j : Nat} {x : V} {p : Nat × Nat} (h : p ∈ (handN bx j x).2) : HL ≤ p.2 := by
  cases x with
  | box k off =>
    unfold handN at h
    simp only at h
    split at h
    · obtain ⟨i, hi⟩ := scanL_cls _ _ _ h
      omega
    · cases h
  | sl e sh ow xs =>
    cases ow with
    | none => cases h
    | some L =>
      simp only [handN, List.mem_singleton] at h
      subst h
      simp only
      omega
  | _ => cases h
theorem handNs_ml {bx : List (Nat × List V)} : ∀ (vs : List V) (j : Nat) {p : Nat × Nat}, p ∈ (handNs bx j vs).2 → HL ≤ p.2
  | [], j, p, h => by cases h
  | x :: vs, j, p, h => by
    unfold handNs at h
    rcases List.mem_append.1 h with h | h
    · exact handN_ml h
    · exact handNs_ml vs (j + 1) h
theorem deep_noBxa {x y : V} (h : x.deep = some y) (j : Nat) : frArg j y = y ∧ y.isBxa = false := by
  cases x with
  | fn f c => cases c <;> simp [V.deep] at h; subst h; exact ⟨rfl, rfl⟩
  | _ => simp [V.deep] at h <;> subst h <;> exact ⟨rfl, rfl⟩
theorem handNs_append {bx : List (Nat × List V)} : ∀ (as hs : List V) (j : Nat), (handNs bx j (as ++ hs)).1 = (handNs bx j as).1 ++ (handNs bx (j + as.length) hs).1
  | [], hs, j => by simp [handNs]
  | x :: as, hs, j => by
    have e : ∀ v l j, (handNs bx j (v :: l)).1 = (handN bx j v).1 ++ (handNs bx (j + 1) l).1 := fun _ _ _ => rfl
    rw [List.cons_append, e, e, handNs_append as hs (j + 1), List.append_assoc, List.length_cons, show j + 1 + as.length = j + (as.length + 1) by omega]
theorem handVs_append {bx : List (Nat × List V)} {MB ML : List (Nat × Nat)} : ∀ (as hs args : List V), handVs bx MB ML (as ++ hs) = some args → ∃ A H, args = A ++ H ∧ handVs bx MB ML as = some A ∧ handVs bx MB ML hs = some H
  | [], hs, args, h => ⟨[], args, rfl, rfl, h⟩
  | x :: as, hs, args, h => by
    rw [List.cons_append] at h
    unfold handVs at h
    split at h
    · rename_i y ys hy hys
      simp only [Option.some.injEq] at h
      subst h
      obtain ⟨A, H, rfl, h1, h2⟩ := handVs_append as hs ys hys
      refine ⟨y :: A, H, rfl, ?_, h2⟩
      unfold handVs
      rw [hy, h1]
    · cases h
theorem hidOf_shape : ∀ (as : List V), ∀ x ∈ hidOf as, ∃ k, x = .box k HID
  | [], x, h => by cases h
  | v :: as, x, h => by
    unfold hidOf at h
    rcases List.mem_append.1 h with h | h
    · split at h
      · obtain ⟨c, _, hc⟩ := List.mem_filterMap.1 h
        split at hc
        · rename_i k hk
          exact ⟨k, (Option.some.inj hc).symm⟩
        · cases hc
      · cases h
    · exact hidOf_shape as x h
theorem hid_hid {bx : List (Nat × List V)} {MB ML : List (Nat × Nat)} : ∀ (hs H : List V), (∀ x ∈ hs, ∃ k, x = .box k HID) → handVs bx MB ML hs = some H → ∀ y ∈ H, isHid y = true
  | [], H, _, h, y, hy => by
    simp only [handVs, Option.some.injEq] at h
    subst h
    cases hy
  | x :: hs, H, hx, h, y, hy => by
    obtain ⟨k, rfl⟩ := hx x List.mem_cons_self
    unfold handVs at h
    split at h
    · rename_i z zs hz hzs
      simp only [Option.some.injEq] at h
      subst h
      rcases List.mem_cons.1 hy with rfl | hy
      · unfold handV at hz
        simp only at hz
        split at hz
        · simp only [Option.some.injEq] at hz
          subst hz
          rfl
        · cases hz
      · exact hid_hid hs zs (fun x h => hx x (List.mem_cons_of_mem _ h)) hzs y hy
    · cases h
theorem frArgs_hid : ∀ (A H : List V) (j : Nat), (∀ y ∈ H, isHid y = true) → frArgs j (A ++ H) = frArgs j A
  | [], H, j, h => by
    rw [List.nil_append]
    induction H generalizing j with
    | nil => rfl
    | cons y H ih =>
      unfold frArgs
      rw [h y List.mem_cons_self, cond_true, ih (j + 1) fun z hz => h z (List.mem_cons_of_mem _ hz)]
      rfl
  | a :: A, H, j, h => by
    rw [List.cons_append]
    unfold frArgs
    rw [frArgs_hid A H (j + 1) h]
theorem hid_bxa {H : List V} (h : ∀ y ∈ H, isHid y = true) (hb : hasBxa H = false) : H = [] := by
  cases H with
  | nil => rfl
  | cons y H =>
    have := h y List.mem_cons_self
    unfold hasBxa at hb
    rw [List.any_cons, Bool.or_eq_false_iff] at hb
    cases y with
    | bxa _ _ => cases hb.1
    | _ => cases this
theorem handVs_fr {g gi : Gh} {bx : List (Nat × List V)} {MB ML : List (Nat × Nat)} (hG : gi.G = g.G) (hO : ∀ L n, lk ML L = some n → gi.O n = g.O L) (hβ : ∀ k n, (k, n) ∈ MB → gi.β n = g.β k) :
    ∀ (as args : List V) (vs : List Value) (j : Nat), as.any isHidB = false → handVs bx MB ML as = some args → (∀ p ∈ (handNs bx j as).1, p ∈ MB) → (∀ k n, lk MB k = some n → (k, n) ∈ MB) → PW (arep g) as vs → PW (trep gi) (frArgs j args) vs
  | [], args, vs, j, _, h, _, _, hp => by
    simp only [handVs, Option.some.injEq] at h
    subst h
    rw [hp.nil_iff]
    exact .nil
  | x :: as, args, vs, j, hnh, h, hm, hlk, hp => by
    rw [List.any_cons, Bool.or_eq_false_iff] at hnh
    obtain ⟨v, t, rfl, h1, h2⟩ := hp.cons_inv
    unfold handVs at h
    split at h
    · rename_i y ys hy hys
      simp only [Option.some.injEq] at h
      subst h
      have hih : isHid y = false := by
        cases x with
        | box k off =>
          unfold handV at hy
          simp only at hy
          split at hy
          · simp only [Option.some.injEq] at hy
            subst hy
            exact hnh.1
          · cases hy
        | sl e sh ow xs =>
          cases ow with
          | none => simp only [handV, V.deep, Option.some.injEq] at hy; subst hy; rfl
          | some L => simp only [handV, Option.some.injEq] at hy; subst hy; rfl
        | fn f c =>
          cases c with
          | nil => simp only [handV, V.deep, Option.some.injEq] at hy; subst hy; rfl
          | cons c cs => obtain ⟨_, hy⟩ := cond_some (show (bif Nat.blt f ARR && allBox (c :: cs) then some (V.fn f ((c :: cs).map (renV MB ML))) else none) = some y from hy); simp only [Option.some.injEq] at hy; subst hy; rfl
        | _ => simp [handV, V.deep] at hy <;> subst hy <;> rfl
      unfold frArgs
      rw [hih, cond_false]
      refine .cons ?_ (handVs_fr hG hO hβ as ys t (j + 1) hnh.2 hys (fun p hp => hm p (by unfold handNs; exact List.mem_append_right _ hp)) hlk h2)
      have hβ' : ∀ k n, lk MB k = some n → gi.β n = g.β k := fun k n hl => hβ k n (hlk k n hl)
      have hsr : ∀ z, arep g z v → (∀ f c, z ≠ .fn f c) → (∀ vs, z ≠ .tup vs) → srep g z v := fun z hz hf ht => hz.elim (fun hz => trep_single (by cases z <;> first | rfl | exact absurd rfl (ht _) | exact absurd rfl (hf _ _)) hz) id
      have deepcase : x.deep = some y → trep gi (frArg j y) v := by
        intro hd
        rw [(deep_noBxa hd j).1]
        refine trep_of_rep (deep_plain hd) ?_
        rw [hG]
        exact h1.elim (fun h => trep_deep h hd) (fun h => srep_deep h hd)
      cases x with
      | box k off =>
        unfold handV at hy
        simp only at hy
        split at hy
        · rename_i cs hcs
          simp only [Option.some.injEq] at hy
          subst hy
          show trep gi (.box (HL + j) off) v
          obtain ⟨b, hb, hv⟩ := hsr _ h1 (by intro f c e; cases e) (by intro vs e; cases e)
          refine trep_box.2 ⟨b, ?_, hv⟩
          rw [hβ k (HL + j) (hm _ (by unfold handNs handN; simp only [hcs]; exact List.mem_append_left _ (List.mem_singleton.2 rfl)))]
          exact hb
        · cases hy
      | sl e sh ow xs =>
        cases ow with
        | none => exact deepcase hy
        | some L =>
          have hy : some (renV MB ML (.sl e sh (some L) xs)) = some y := hy
          simp only [Option.some.injEq] at hy
          subst hy
          show trep gi (.sl e sh (lk ML L) xs) v
          exact srep_trep rfl (renV_srep (x := .sl e sh (some L) xs) hG hO hβ' (hsr _ h1 (by intro f c e; cases e) (by intro vs e; cases e)))
      | fn f c =>
        cases c with
        | nil => exact deepcase hy
        | cons c cs =>
          obtain ⟨hcb, hy⟩ := cond_some (show (bif Nat.blt f ARR && allBox (c :: cs) then some (V.fn f ((c :: cs).map (renV MB ML))) else none) = some y from hy)
          simp only [Option.some.injEq] at hy
          subst hy
          show trep gi (.fn f ((c :: cs).map (renV MB ML))) v
          have h1 : trep g (.fn f (c :: cs)) v := h1.elim id fun h => by
            have h : rep g.G (.fn f (c :: cs)) v := h
            unfold rep at h
            exact absurd h.2 (by simp)
          obtain ⟨a, ha, hpa⟩ := h1
          exact ⟨a, ha, map_pw hpa fun z _ u hz => renV_srep hG hO hβ' hz⟩
      | _ => exact deepcase hy
    · cases h
theorem handVs_bx {bx : List (Nat × List V)} {MB ML : List (Nat × Nat)} : ∀ (as args : List V) (j : Nat), handVs bx MB ML as = some args → ∀ k' cs', lookBx (bxArgs j args) k' = some cs' → ∃ k cs, (k, k') ∈ (handNs bx j as).1 ∧ lookBx bx k = some cs ∧ cs' = cs.map (V.ren MB ML)
  | [], args, j, h, k', cs', hl => by
    simp only [handVs, Option.some.injEq] at h
    subst h
    cases hl
  | x :: as, args, j, h, k', cs', hl => by
    unfold handVs at h
    split at h
    · rename_i y ys hy hys
      simp only [Option.some.injEq] at h
      subst h
      have rest : lookBx (bxArgs (j + 1) ys) k' = some cs' → ∃ k cs, (k, k') ∈ (handNs bx j (x :: as)).1 ∧ lookBx bx k = some cs ∧ cs' = cs.map (V.ren MB ML) := by
        intro hl
        obtain ⟨k, cs, h1, h2⟩ := handVs_bx as ys (j + 1) hys k' cs' hl
        exact ⟨k, cs, by unfold handNs; exact List.mem_append_right _ h1, h2⟩
      have deepcase : x.deep = some y → ∃ k cs, (k, k') ∈ (handNs bx j (x :: as)).1 ∧ lookBx bx k = some cs ∧ cs' = cs.map (V.ren MB ML) := by
        intro hd
        have := (deep_noBxa hd j).2
        refine rest ?_
        cases y with
        | bxa _ _ => cases this
        | _ => exact hl
      cases x with
      | box k off =>
        unfold handV at hy
        simp only at hy
        split at hy
        · rename_i cs hcs
          simp only [Option.some.injEq] at hy
          subst hy
          unfold bxArgs lookBx at hl
          cases hk : HL + j == k' with
          | true =>
            rw [hk, cond_true] at hl
            simp only [Option.some.injEq] at hl
            obtain rfl : HL + j = k' := by simpa using hk
            exact ⟨k, cs, by unfold handNs handN; simp only [hcs]; exact List.mem_append_left _ (List.mem_singleton.2 rfl), hcs, hl.symm⟩
          | false =>
            rw [hk, cond_false] at hl
            exact rest hl
        · cases hy
      | sl e sh ow xs =>
        cases ow with
        | none => exact deepcase hy
        | some L =>
          have hy : some (renV MB ML (.sl e sh (some L) xs)) = some y := hy
          simp only [Option.some.injEq] at hy
          subst hy
          exact rest hl
      | fn f c =>
        cases c with
        | nil => exact deepcase hy
        | cons c cs =>
          obtain ⟨_, hy⟩ := cond_some (show (bif Nat.blt f ARR && allBox (c :: cs) then some (V.fn f ((c :: cs).map (renV MB ML))) else none) = some y from hy)
          simp only [Option.some.injEq] at hy
          subst hy
          exact rest hl
      | _ => exact deepcase hy
    · cases h
theorem handVs_out {bx : List (Nat × List V)} {MB ML : List (Nat × Nat)} : ∀ (as args : List V) (j : Nat) (bs : List (List V)), handVs bx MB ML as = some args → ∀ (i : Nat) k k' cs, (handNs bx j as).1[i]? = some (k, k') → bs[i]? = some cs → lookBx (bxOut j args bs) k' = some cs
  | [], args, j, bs, h, i, k, k', cs, hi, _ => by simp [handNs] at hi
  | x :: as, args, j, bs, h, i, k, k', cs, hi, hb => by
    unfold handVs at h
    split at h
    · rename_i y ys hy hys
      simp only [Option.some.injEq] at h
      subst h
      unfold handNs at hi
      have plain : (handN bx j x).1 = [] → bxOut j (y :: ys) bs = bxOut (j + 1) ys bs → lookBx (bxOut j (y :: ys) bs) k' = some cs := by
        intro he ho
        rw [he] at hi
        rw [ho]
        exact handVs_out as ys (j + 1) bs hys i k k' cs hi hb
      have deepcase : x.deep = some y → (handN bx j x).1 = [] → lookBx (bxOut j (y :: ys) bs) k' = some cs := by
        intro hd he
        have := (deep_noBxa hd j).2
        refine plain he ?_
        cases y with
        | bxa _ _ => cases this
        | _ => rfl
      cases x with
      | box k0 off =>
        unfold handV at hy
        simp only at hy
        split at hy
        · rename_i cs0 hcs
          simp only [Option.some.injEq] at hy
          subst hy
          unfold handN at hi
          simp only [hcs] at hi
          cases bs with
          | nil => simp at hb
          | cons c0 bs =>
            cases i with
            | zero =>
              simp only [List.cons_append, List.nil_append, List.getElem?_cons_zero, Option.some.injEq, Prod.mk.injEq] at hi hb
              obtain ⟨rfl, rfl⟩ := hi
              subst hb
              unfold bxOut lookBx
              rw [beq_self_eq_true, cond_true]
            | succ i =>
              simp only [List.cons_append, List.nil_append, List.getElem?_cons_succ] at hi hb
              have hm := List.mem_of_getElem? hi
              obtain ⟨⟨j', h1, h2⟩, _⟩ := handNs_mb as (j + 1) hm
              unfold bxOut lookBx
              have : (HL + j == k') = false := by
                rw [beq_eq_false_iff_ne]
                simp only at h2
                omega
              rw [this, cond_false]
              exact handVs_out as ys (j + 1) bs hys i k k' cs hi hb
        · cases hy
      | sl e sh ow xs =>
        cases ow with
        | none => exact deepcase hy rfl
        | some L =>
          have hy : some (renV MB ML (.sl e sh (some L) xs)) = some y := hy
          simp only [Option.some.injEq] at hy
          subst hy
          exact plain rfl rfl
      | fn f c =>
        cases c with
        | nil => exact deepcase hy rfl
        | cons c cs =>
          obtain ⟨_, hy⟩ := cond_some (show (bif Nat.blt f ARR && allBox (c :: cs) then some (V.fn f ((c :: cs).map (renV MB ML))) else none) = some y from hy)
          simp only [Option.some.injEq] at hy
          subst hy
          exact plain rfl rfl
      | _ => exact deepcase hy rfl
    · cases h
theorem killL_inv {E : Env} {B : Own} {G0 : Known} {w0 : World} {a : Act} {w : World} : ∀ (l : List Nat) (s : St) (g : Gh), Inv E B G0 w0 s g a w →
    ∃ g', g'.G = g.G ∧ g'.β = g.β ∧ (∀ k, k ∈ l → g'.O k = none) ∧ (∀ k, k ∉ l → g'.O k = g.O k) ∧ g'.G1 = g.G1 ∧ Inv E B G0 w0 (killL s l) g' a w
  | [], s, g, h => ⟨g, rfl, rfl, (fun k hk => absurd hk (by simp)), (fun _ _ => rfl), rfl, h⟩
  | L :: l, s, g, h => by
    obtain ⟨g', h1, h2, h3, h4, h6, h5⟩ := killL_inv l (s.kill L) _ (h.kill L)
    refine ⟨g', h1, h2, fun k hk => ?_, fun k hk => ?_, h6, h5⟩
    · by_cases hl : k ∈ l
      · exact h3 k hl
      · rw [h4 k hl]
        rcases List.mem_cons.1 hk with rfl | hk
        · exact if_pos rfl
        · exact absurd hk hl
    · rw [List.mem_cons, not_or] at hk
      rw [h4 k hk.2]
      exact if_neg hk.1
theorem killL_look : ∀ (l : List Nat) (s : St) (k : Nat), (∃ cs, lookBx (killL s l).bx k = some cs) ↔ ∃ cs, lookBx s.bx k = some cs
  | [], s, k => Iff.rfl
  | L :: l, s, k => by
    unfold killL
    rw [killL_look l, look_kill]
    cases lookBx s.bx k <;> simp
theorem setBx_some (k : Nat) (ds : List V) : ∀ (l : List (Nat × List V)) (j : Nat), (∃ cs, lookBx (setBx l k ds) j = some cs) ↔ ∃ cs, lookBx l j = some cs
  | [], j => Iff.rfl
  | (i, cs) :: l, j => by
    unfold setBx
    cases hi : i == k with
    | true =>
      rw [cond_true]
      unfold lookBx
      obtain rfl : i = k := by simpa using hi
      cases i == j <;> simp
    | false =>
      rw [cond_false]
      unfold lookBx
      cases i == j with
      | true => simp
      | false => exact setBx_some k ds l j
theorem putBx_look {mb ml : List (Nat × Nat)} : ∀ (l : List (Nat × Nat)) (bs : List (List V)) (bx : List (Nat × List V)), bs.length = l.length → (l.map (·.1)).Nodup → (∀ p ∈ l, ∃ old, lookBx bx p.1 = some old) → ∀ k,
    (∃ (i : Nat) (k' : Nat) (cs : List V), l[i]? = some (k, k') ∧ bs[i]? = some cs ∧ lookBx (putBx mb ml l bs bx) k = some (cs.map (V.ren mb ml))) ∨ ((∀ p ∈ l, p.1 ≠ k) ∧ lookBx (putBx mb ml l bs bx) k = lookBx bx k)
  | [], bs, bx, _, _, _, k => .inr ⟨(fun p hp => absurd hp (by simp)), by cases bs <;> rfl⟩
  | (a, b) :: l, [], bx, hl, _, _, k => by simp at hl
  | (a, b) :: l, c :: bs, bx, hl, hn, hm, k => by
    rw [List.map_cons, List.nodup_cons] at hn
    obtain ⟨old, hold⟩ := hm (a, b) List.mem_cons_self
    have hold : lookBx bx a = some old := hold
    have hset := fun j => look_setBx bx a j (c.map (V.ren mb ml)) old hold
    unfold putBx
    rcases putBx_look l bs (setBx bx a (c.map (V.ren mb ml))) (by simpa using hl) hn.2 (fun p hp => (setBx_some _ _ bx p.1).2 (hm p (List.mem_cons_of_mem _ hp))) k with ⟨i, k', cs, h1, h2, h3⟩ | ⟨h1, h2⟩
    · exact .inl ⟨i + 1, k', cs, by simpa using h1, by simpa using h2, h3⟩
    · by_cases hk : k = a
      · subst hk
        refine .inl ⟨0, b, c, rfl, rfl, ?_⟩
        rw [h2, hset k, if_pos rfl]
      · refine .inr ⟨fun p hp => ?_, ?_⟩
        · rcases List.mem_cons.1 hp with rfl | hp
          · exact fun e => hk e.symm
          · exact h1 p hp
        · rw [h2, hset k, if_neg hk]
theorem firsts_spec : ∀ (l : List (Nat × Nat)) (done : List Nat), ((firsts done l).map (·.1)).Nodup ∧ ∀ p ∈ firsts done l, p ∈ l ∧ p.1 ∉ done
  | [], done => ⟨List.nodup_nil, (fun p hp => absurd hp (by simp [firsts]))⟩
  | (L, n) :: l, done => by
    unfold firsts
    cases hd : done.contains L with
    | true =>
      rw [cond_true]
      obtain ⟨h1, h2⟩ := firsts_spec l done
      exact ⟨h1, fun p hp => ⟨List.mem_cons_of_mem _ (h2 p hp).1, (h2 p hp).2⟩⟩
    | false =>
      rw [cond_false]
      obtain ⟨h1, h2⟩ := firsts_spec l (L :: done)
      simp at hd
      refine ⟨?_, fun p hp => ?_⟩
      · rw [List.map_cons, List.nodup_cons]
        refine ⟨fun hm => ?_, h1⟩
        obtain ⟨p, hp, he⟩ := List.mem_map.1 hm
        exact (h2 p hp).2 (by rw [he]; exact List.mem_cons_self)
      · rcases List.mem_cons.1 hp with rfl | hp
        · exact ⟨List.mem_cons_self, hd⟩
        · obtain ⟨h3, h4⟩ := h2 p hp
          exact ⟨List.mem_cons_of_mem _ h3, fun e => h4 (List.mem_cons_of_mem _ e)⟩
theorem backN_cls {any : Bool} {d : Nat} {x : V} : ∀ (mb : List (Nat × Nat)) (bs : List (List V)) (p : Nat × Nat), p ∈ backN any d x mb bs → ∃ i, p.2 = clsN any p.1 i
  | [], bs, p, h => by
    have h : p ∈ scanL (fun L i => clsN any L (match i with | 0 => d | _ => d + 1000 * i)) 0 (cells1 x) := by cases bs <;> exact h
    obtain ⟨j, hj⟩ := scanL_cls _ _ _ h
    exact ⟨_, hj⟩
  | (k, k') :: mb, [], p, h => by
    have h : p ∈ scanL (fun L i => clsN any L (match i with | 0 => d | _ => d + 1000 * i)) 0 (cells1 x) := h
    obtain ⟨j, hj⟩ := scanL_cls _ _ _ h
    exact ⟨_, hj⟩
  | (k, k') :: mb, c :: bs, p, h => by
    unfold backN at h
    rcases List.mem_append.1 h with h | h
    · obtain ⟨j, hj⟩ := scanL_cls _ _ _ h
      exact ⟨_, hj⟩
    · exact backN_cls mb bs p h
section
variable {E : Env} {B : Own} {G0 : Known} {w0 : World} {s : St} {g : Gh} {a : Act} {w : World}
def handB (g : Gh) (w : World) (mb ml : List (Nat × Nat)) : Own where
  m := fun b => (∃ k k', (k, k') ∈ mb ∧ g.β k = some b) ∨ (∃ L n v e sz, (L, n) ∈ ml ∧ g.O L = some (v, e, sz) ∧ v.ownBlock = some b) ∨ w.heap.size ≤ b
  n := w.heap.size
  β := fun k' => match lk (swapL mb) k' with | some k => g.β k | none => none
  df := []
def handG (g : Gh) (mb ml : List (Nat × Nat)) : Gh where
  G := g.G
  O := fun n => match lk (swapL ml) n with | some L => g.O L | none => none
  β := fun k' => match lk (swapL mb) k' with | some k => g.β k | none => none
  G1 := g.G
theorem anyHL_false : ∀ {l : List (Nat × Nat)}, anyHL l = false → ∀ {L n : Nat}, (L, n) ∈ l → L < HL
  | [], _, L, n, h => by cases h
  | (a, b) :: l, h, L, n, hm => by
    unfold anyHL at h
    rw [Bool.or_eq_false_iff] at h
    rcases List.mem_cons.1 hm with hm | hm
    · simp only [Prod.mk.injEq] at hm
      rw [hm.1]
      refine Nat.lt_of_not_le fun e => ?_
      rw [Nat.ble_eq_true_of_le e] at h
      cases h.1
    · exact anyHL_false h.2 hm
theorem okHand_spec {mb ml : List (Nat × Nat)} (h : okHand mb ml = true) : (mb.map (·.1)).Nodup ∧ (mb.map (·.2)).Nodup ∧ (ml.map (·.1)).Nodup ∧ (ml.map (·.2)).Nodup := by
  unfold okHand at h
  simp only [Bool.and_eq_true, nodupN_iff] at h
  exact ⟨h.1.1.1, h.1.1.2, h.1.2, h.2⟩
theorem handOf_spec {bx : List (Nat × List V)} {as args : List V} {mb ml : List (Nat × Nat)} (h : handOf bx 0 as = some (args, mb, ml)) : mb = (handNs bx 0 (as ++ hidOf as)).1 ∧ ml = (handNs bx 0 (as ++ hidOf as)).2 ∧ handVs bx mb ml (as ++ hidOf as) = some args ∧ as.any isHidB = false := by
  unfold handOf at h
  cases hq : as.any isHidB with
  | true => rw [hq] at h; cases h
  | false =>
    rw [hq, cond_false] at h
    unfold handOf1 at h
    split at h
    · rename_i x hx
      simp only [Option.some.injEq, Prod.mk.injEq] at h
      obtain ⟨rfl, rfl, rfl⟩ := h
      exact ⟨rfl, rfl, hx, rfl⟩
    · cases h
theorem hand_m (h : Inv E B G0 w0 s g a w) {mb ml : List (Nat × Nat)} (hm : ∀ p ∈ mb, ∃ cs, lookBx s.bx p.1 = some cs) : ∀ b, (handB g w mb ml).m b → B.m b := by
  rintro b (⟨k, k', hk, hb⟩ | ⟨L, n, v, e, sz, hL, hO, hb⟩ | hb)
  · obtain ⟨cs, hc⟩ := hm _ hk
    obtain ⟨b', _, _, h1, h2, _⟩ := h.bxs.1 k cs hc
    rw [hb] at h1
    simp only [Option.some.injEq] at h1
    rw [h1]; exact h2
  · rcases (h.own.1 L v e sz hO).2 with hv | ⟨b', n, cap, cur, l, hv, hok, _⟩
    · rw [hv] at hb; cases hb
    · rw [hv] at hb
      simp only [Value.ownBlock, Option.some.injEq] at hb
      rw [← hb]; exact hok.1
  · exact h.hB.2 b hb
theorem hand_entry (h : Inv E B G0 w0 s g a w) {as args : List V} {vs : List Value} {mb ml : List (Nat × Nat)} (hp : PW (arep g) as vs) (ho : handOf s.bx 0 as = some (args, mb, ml)) (hn : okHand mb ml = true) :
    Inv E (handB g w mb ml) g.G w ⟨frArgs 0 args, bxArgs 0 args⟩ (handG g mb ml) ⟨vs.toArray, []⟩ w := by
  obtain ⟨n1, n2, n3, n4⟩ := okHand_spec hn
  obtain ⟨e1, e2, hv, hnoh⟩ := handOf_spec ho
  have hm : ∀ p ∈ mb, (∃ j, p.2 = HL + j) ∧ ∃ cs, lookBx s.bx p.1 = some cs := fun p hp => by
    rw [e1] at hp
    obtain ⟨⟨j, _, hj⟩, hc⟩ := handNs_mb (as ++ hidOf as) 0 hp
    exact ⟨⟨j, hj⟩, hc⟩
  have hl : ∀ p ∈ ml, HL ≤ p.2 := fun p hp => by rw [e2] at hp; exact handNs_ml (as ++ hidOf as) 0 hp
  have hO : ∀ L n, lk ml L = some n → (handG g mb ml).O n = g.O L := fun L n hl => by
    show (match lk (swapL ml) n with | some L => g.O L | none => none) = _
    rw [lk_swap n4 (lk_mem hl)]
  have hβ : ∀ k n, (k, n) ∈ mb → (handG g mb ml).β n = g.β k := fun k n hl => by
    show (match lk (swapL mb) n with | some L => g.β L | none => none) = _
    rw [lk_swap n2 hl]
  have hOinv : ∀ n x, (handG g mb ml).O n = some x → ∃ L, (L, n) ∈ ml ∧ g.O L = some x := fun n x hx => by
    have hx : (match lk (swapL ml) n with | some L => g.O L | none => none) = some x := hx
    split at hx
    · rename_i L hL; exact ⟨L, swap_mem.1 (lk_mem hL), hx⟩
    · cases hx
  refine ⟨?_, rfl, h.gok, ⟨fun n v e sz hn' => ?_, fun n n' v v' e e' sz sz' b h1 h2 hb hb' => ?_⟩, ⟨fun k' cs' hk' => ?_, fun k k' cs cs' hk hk' hb => ?_⟩, .refl _ _, ⟨Nat.le_refl _, fun b hb => .inr (.inr hb)⟩, ⟨fun _ _ => rfl, .refl _, fun _ _ => rfl⟩, ⟨h.globG, fun b l hb => known_lt h.gok hb⟩, .refl _⟩
  · show PW (trep (handG g mb ml)) (frArgs 0 args) vs.toArray.toList
    rw [List.toList_toArray]
    obtain ⟨A, H, rfl, hA, hH⟩ := handVs_append as (hidOf as) args hv
    rw [frArgs_hid A H 0 (hid_hid (hidOf as) H (hidOf_shape as) hH)]
    exact handVs_fr (g := g) (gi := handG g mb ml) rfl hO hβ as A vs 0 hnoh hA (fun p hp => by rw [e1, handNs_append]; exact List.mem_append_left _ hp) (fun k n => lk_mem) hp
  · obtain ⟨L, hL, hx⟩ := hOinv n _ hn'
    obtain ⟨h1, h2⟩ := h.own.1 L v e sz hx
    refine ⟨h1, h2.imp id ?_⟩
    rintro ⟨b, m, cap, cur, l, hv', hb, rest⟩
    refine ⟨b, m, cap, cur, l, hv', ⟨.inr (.inl ⟨L, n, v, e, sz, hL, hx, by rw [hv']; rfl⟩), fun hlt => ?_⟩, rest⟩
    have := hl _ hL
    simp only at this
    omega
  · obtain ⟨L, hL, hx⟩ := hOinv n _ h1
    obtain ⟨L', hL', hx'⟩ := hOinv n' _ h2
    have := h.own.2 L L' v v' e e' sz sz' b hx hx' hb hb'
    subst this
    exact mem_inj1 n3 hL hL'
  · obtain ⟨k, cs, h1, h2, rfl⟩ := handVs_bx (as ++ hidOf as) args 0 hv k' cs' hk'
    rw [← e1] at h1
    obtain ⟨b, c, e, hb, hBb, hh, hpw, hone, hG, hq9⟩ := h.bxs.1 k cs h2
    exact ⟨b, c, e, (hβ k k' h1).trans hb, .inl ⟨k, k', h1, hb⟩, hh, map_pw hpw fun y _ v hv => ren_trep (g := g) (g' := handG g mb ml) rfl hO (fun k n hl => hβ k n (lk_mem hl)) hv, hone, hG, bldT_map (ren_nilp _ _) hq9⟩
  · obtain ⟨k1, cs1, h1, h2, _⟩ := handVs_bx (as ++ hidOf as) args 0 hv k cs hk
    obtain ⟨k2, cs2, h3, h4, _⟩ := handVs_bx (as ++ hidOf as) args 0 hv k' cs' hk'
    rw [← e1] at h1 h3
    rw [hβ k1 k h1, hβ k2 k' h3] at hb
    have := h.bxs.2 k1 k2 cs1 cs2 h2 h4 hb
    subst this
    exact mem_inj1 n1 h1 h3
theorem hand_back (h : Inv E B G0 w0 s g a w) {as args : List V} {mb ml : List (Nat × Nat)} (ho : handOf s.bx 0 as = some (args, mb, ml)) (hn : okHand mb ml = true) {d : Option Nat} {x : V} {bs : List (List V)} {s' : St} (hs : backSt s d mb ml x bs = some s')
    {g1 : Gh} {v : Value} {w' : World} (hx : Inv E (handB g w mb ml) g.G w ⟨[x], bxOut 0 args bs⟩ g1 ⟨#[v], []⟩ w') :
    ∃ g2, Inv E B G0 w0 s' g2 (a.put d v) w' := by
  obtain ⟨n1, n2, n3, n4⟩ := okHand_spec hn
  obtain ⟨e1, e2, hv, hnoh⟩ := handOf_spec ho
  have hm : ∀ p ∈ mb, (∃ j, p.2 = HL + j) ∧ ∃ cs, lookBx s.bx p.1 = some cs := fun p hp => by
    rw [e1] at hp
    obtain ⟨⟨j, _, hj⟩, hc⟩ := handNs_mb (as ++ hidOf as) 0 hp
    exact ⟨⟨j, hj⟩, hc⟩
  unfold backSt at hs
  have hfst := firsts_spec (backN (anyHL ml) (dOr d) x mb bs) []
  have hcls : ∀ p ∈ firsts [] (backN (anyHL ml) (dOr d) x mb bs), ∃ i, p.2 = clsN (anyHL ml) p.1 i := fun p hp => backN_cls mb bs p (hfst.2 p hp).1
  have n6 := hfst.1
  clear hfst
  generalize firsts [] (backN (anyHL ml) (dOr d) x mb bs) = ml2 at hs hcls n6
  unfold backSt1 at hs
  obtain ⟨hc, hs⟩ := cond_some hs
  rw [Bool.and_eq_true, nodupN_iff, beq_iff_eq] at hc
  obtain ⟨n5, hlen⟩ := hc
  simp only [Option.some.injEq] at hs
  obtain ⟨ga, ga1, ga2, ga3, ga4, ga5, ha⟩ := killL_inv (ml.map (·.1)) s g h
  obtain ⟨gb, gb1, gb2, gb3, gb4, gb5, hb⟩ := killL_inv (ml2.map (·.2)) _ ga ha
  have hgbO : ∀ L x, gb.O L = some x → g.O L = some x ∧ (∀ n, (L, n) ∉ ml) ∧ ∀ n, (n, L) ∉ ml2 := by
    intro L x hL
    by_cases h1 : L ∈ ml2.map (·.2)
    · rw [gb3 L h1] at hL; cases hL
    · rw [gb4 L h1] at hL
      by_cases h2 : L ∈ ml.map (·.1)
      · rw [ga3 L h2] at hL; cases hL
      · rw [ga4 L h2] at hL
        exact ⟨hL, fun n hn => h2 (List.mem_map.2 ⟨_, hn, rfl⟩), fun n hn => h1 (List.mem_map.2 ⟨_, hn, rfl⟩)⟩
  have hbxm : ∀ k cs b, lookBx s.bx k = some cs → (∀ p ∈ mb, p.1 ≠ k) → g.β k = some b → ¬ (handB g w mb ml).m b := by
    intro k cs b hk hne hb'
    obtain ⟨b1, c1, _, q1, _, q3, _, _, q6, _⟩ := h.bxs.1 k cs hk
    rw [hb'] at q1
    simp only [Option.some.injEq] at q1
    subst q1
    rintro (⟨k2, k', h1, h2⟩ | ⟨L, n, v, e, sz, hL, hO, hb''⟩ | h3)
    · obtain ⟨_, cs2, hc2⟩ := hm _ h1
      exact hne _ h1 (h.bxs.2 k2 k cs2 cs hc2 hk (h2.trans hb'.symm))
    · rcases (h.own.1 L v e sz hO).2 with hv | ⟨b2, _, _, _, l, hv, _, _, _, _, _, hG, _⟩
      · rw [hv] at hb''; cases hb''
      · rw [hv] at hb''
        simp only [Value.ownBlock, Option.some.injEq] at hb''
        subst hb''
        rw [q6] at hG; cases hG
    · have := (Array.getElem?_eq_some_iff.1 q3).1
      omega
  have hownm : ∀ L v e sz b, g.O L = some (v, e, sz) → (∀ n, (L, n) ∉ ml) → v.ownBlock = some b → ¬ (handB g w mb ml).m b := by
    intro L v e sz b hO hne hb'
    rcases (h.own.1 L v e sz hO).2 with hv | ⟨b2, _, _, _, l, hv, _, hh, _, _, _, hG, _⟩
    · rw [hv] at hb'; cases hb'
    · have hb2 := hb'
      rw [hv] at hb2
      simp only [Value.ownBlock, Option.some.injEq] at hb2
      subst hb2
      rintro (⟨k2, k', h1, h2⟩ | ⟨L2, n, v2, e2, sz2, hL2, hO2, hb2⟩ | h3)
      · obtain ⟨_, cs2, hc2⟩ := hm _ h1
        obtain ⟨b3, _, _, q1, _, _, _, _, q6, _⟩ := h.bxs.1 k2 cs2 hc2
        rw [h2] at q1
        simp only [Option.some.injEq] at q1
        subst q1
        rw [q6] at hG; cases hG
      · have := h.own.2 L L2 v v2 e e2 sz sz2 b2 hO hO2 hb' hb2
        subst this
        exact hne _ hL2
      · have := (Array.getElem?_eq_some_iff.1 hh).1
        omega
  have hmM := hand_m h (ml := ml) fun p hp => (hm p hp).2
  let O2 : Nat → Option (Value × Nat × Nat) := fun L => match lk (swapL ml2) L with | some n => g1.O n | none => gb.O L
  let g2 : Gh := ⟨g1.G, O2, g.β, g.G1⟩
  have hO2old : ∀ L x, gb.O L = some x → O2 L = some x := by
    intro L x hL
    have h1 := (hgbO L x hL).2.2
    show (match lk (swapL ml2) L with | some n => g1.O n | none => gb.O L) = _
    cases hq : lk (swapL ml2) L with
    | some n => exact absurd (swap_mem.1 (lk_mem hq)) (h1 n)
    | none => exact hL
  have hO2new : ∀ n L, lk ml2 n = some L → O2 L = g1.O n := by
    intro n L hL
    show (match lk (swapL ml2) L with | some n => g1.O n | none => gb.O L) = _
    rw [lk_swap n5 (lk_mem hL)]
  have hO2inv : ∀ L x, O2 L = some x → (∃ n, (n, L) ∈ ml2 ∧ g1.O n = some x) ∨ gb.O L = some x := by
    intro L x hL
    have hL : (match lk (swapL ml2) L with | some n => g1.O n | none => gb.O L) = some x := hL
    split at hL
    · rename_i n hq; exact .inl ⟨n, swap_mem.1 (lk_mem hq), hL⟩
    · exact .inr hL
  have hext : Ext gb g2 := by
    refine ⟨?_, hO2old, fun L v e sz b hL hb' => ?_, fun k b hk => ?_, by rw [gb5, ga5]⟩
    · rw [gb1, ga1]; exact hx.ext.2.1
    · obtain ⟨q1, q2, _⟩ := hgbO L _ hL
      show g1.G b = gb.G b
      rw [gb1, ga1]
      exact hx.ext.1 b (hownm L v e sz b q1 q2 hb')
    · rw [gb2, ga2] at hk; exact hk
  have hβ1 : ∀ k k', lk (swapL mb) k' = some k → g2.β k = g1.β k' := by
    intro k k' hk
    have hmem := swap_mem.1 (lk_mem hk)
    obtain ⟨⟨j, hj⟩, _⟩ := hm _ hmem
    simp only at hj
    rw [hx.ext.2.2 k' (by omega)]
    show g.β k = (match lk (swapL mb) k' with | some k => g.β k | none => none)
    rw [hk]
  have hren : ∀ (y : V) (u : Value), trep g1 y u → trep g2 (y.ren (swapL mb) ml2) u := fun y u hy => ren_trep (g := g1) (g' := g2) rfl (fun n L hL => hO2new n L hL) (fun k' k hk => hβ1 k k' hk) hy
  have hlook0 : ∀ k cs, lookBx (killL (killL s (ml.map (·.1))) (ml2.map (·.2))).bx k = some cs → ∃ cs0, lookBx s.bx k = some cs0 := fun k cs hk => (killL_look _ _ _).1 ((killL_look _ _ _).1 ⟨cs, hk⟩)
  have hput := putBx_look (mb := swapL mb) (ml := ml2) mb bs (killL (killL s (ml.map (·.1))) (ml2.map (·.2))).bx hlen n1 (fun p hp => (killL_look _ _ _).2 ((killL_look _ _ _).2 (hm p hp).2))
  have hexit : ∀ (i : Nat) k k' cs, mb[i]? = some (k, k') → bs[i]? = some cs → lookBx (bxOut 0 args bs) k' = some cs := fun i k k' cs h1 h2 => handVs_out (as ++ hidOf as) args 0 bs hv i k k' cs (by rw [← e1]; exact h1) h2
  have hboxG : ∀ k k' b, (k, k') ∈ mb → g.β k = some b → g1.G b = none := by
    intro k k' b hk hb'
    obtain ⟨i, hi⟩ := List.getElem?_of_mem hk
    have hib : i < bs.length := by rw [hlen]; exact (List.getElem?_eq_some_iff.1 hi).1
    obtain ⟨b2, _, _, q1, _, _, _, _, q6, _⟩ := hx.bxs.1 k' _ (hexit i k k' _ hi (List.getElem?_eq_getElem hib))
    rw [← hβ1 k k' (lk_swap n2 hk)] at q1
    have q1 : g.β k = some b2 := q1
    rw [hb'] at q1
    simp only [Option.some.injEq] at q1
    rw [q1]; exact q6
  have hbig : Inv E B G0 w0 ⟨(killL (killL s (ml.map (·.1))) (ml2.map (·.2))).fr, putBx (swapL mb) ml2 mb bs (killL (killL s (ml.map (·.1))) (ml2.map (·.2))).bx⟩ g2 a w' := by
    refine ⟨hb.fr.mono fun y _ u => trep_ext hext, h.df, hx.gok, ⟨fun L v e sz hL => ?_, fun L L' v v' e e' sz sz' b hL hL' hb1 hb2 => ?_⟩, ⟨fun k cs hk => ?_, fun k k' cs cs' hk hk' hbe => ?_⟩, h.bel.trans (hx.bel.mono hmM), hB_mono h.hB hx.bel.bel.size, ⟨fun b hbm => (hx.ext.1 b fun e => hbm (hmM b e)).trans (h.ext.1 b hbm), h.ext.2.1.trans hx.ext.2.1, h.ext.2.2⟩, h.glob, h.g1⟩
    · rcases hO2inv L _ hL with ⟨n, hn', hL⟩ | hL
      · obtain ⟨q1, q2⟩ := hx.own.1 n v e sz hL
        refine ⟨q1, q2.imp id ?_⟩
        rintro ⟨b, m, cap, cur, l, hv', hok, hh, hnc, hcm, hcs, hG, hl⟩
        refine ⟨b, m, cap, cur, l, hv', ⟨hmM b hok.1, fun hlt => ?_⟩, hh, hnc, hcm, hcs, hG, hl⟩
        obtain ⟨i, hi⟩ := hcls _ hn'
        simp only at hi
        by_cases hnl : n < HL
        · exact Nat.le_trans h.hB.1 (hok.2 hnl)
        · have hany : anyHL ml = false := by
            cases hq : anyHL ml with
            | false => rfl
            | true =>
              rw [hq] at hi
              unfold clsN at hi
              rw [Nat.ble_eq_true_of_le (Nat.le_of_not_lt hnl), Bool.and_self, cond_true] at hi
              omega
          rcases hok.1 with ⟨k2, k', h1, h2⟩ | ⟨L2, n2', v2, e2, sz2, hL2, hO2, hb2⟩ | h3
          · have := hboxG k2 k' b h1 h2
            rw [this] at hG; cases hG
          · have h5 := anyHL_false hany hL2
            rcases (h.own.1 L2 v2 e2 sz2 hO2).2 with hv2 | ⟨b3, _, _, _, _, hv2, hok2, _⟩
            · rw [hv2] at hb2; cases hb2
            · rw [hv2] at hb2
              simp only [Value.ownBlock, Option.some.injEq] at hb2
              rw [← hb2]; exact hok2.2 h5
          · exact Nat.le_trans h.hB.1 h3
      · obtain ⟨r1, r2, _⟩ := hgbO L _ hL
        obtain ⟨q1, q2⟩ := h.own.1 L v e sz r1
        refine ⟨q1, q2.imp id ?_⟩
        rintro ⟨b, m, cap, cur, l, hv', hok, hh, hnc, hcm, hcs, hG, hl⟩
        have hnm := hownm L v e sz b r1 r2 (by rw [hv']; rfl)
        exact ⟨b, m, cap, cur, l, hv', hok, by rw [hx.bel.row b hnm]; exact hh, hnc, hcm, hcs, by show g1.G b = _; rw [hx.ext.1 b hnm]; exact hG, hl⟩
    · rcases hO2inv L _ hL with ⟨n, hn1, hL1⟩ | hL1 <;> rcases hO2inv L' _ hL' with ⟨n', hn2, hL2⟩ | hL2
      · have := hx.own.2 n n' v v' e e' sz sz' b hL1 hL2 hb1 hb2
        subst this
        exact mem_inj1 n6 hn1 hn2
      · exfalso
        obtain ⟨r1, r2, _⟩ := hgbO L' _ hL2
        have hnm := hownm L' v' e' sz' b r1 r2 hb2
        rcases (hx.own.1 n v e sz hL1).2 with hv' | ⟨b3, _, _, _, _, hv', hok, _⟩
        · rw [hv'] at hb1; cases hb1
        · rw [hv'] at hb1
          simp only [Value.ownBlock, Option.some.injEq] at hb1
          rw [← hb1] at hnm
          exact hnm hok.1
      · exfalso
        obtain ⟨r1, r2, _⟩ := hgbO L _ hL1
        have hnm := hownm L v e sz b r1 r2 hb1
        rcases (hx.own.1 n' v' e' sz' hL2).2 with hv' | ⟨b3, _, _, _, _, hv', hok, _⟩
        · rw [hv'] at hb2; cases hb2
        · rw [hv'] at hb2
          simp only [Value.ownBlock, Option.some.injEq] at hb2
          rw [← hb2] at hnm
          exact hnm hok.1
      · exact h.own.2 L L' v v' e e' sz sz' b (hgbO L _ hL1).1 (hgbO L' _ hL2).1 hb1 hb2
    · rcases hput k with ⟨i, k', c0, h1, h2, h3⟩ | ⟨h1, h2⟩
      · rw [h3] at hk
        simp only [Option.some.injEq] at hk
        subst hk
        have hmem := List.mem_of_getElem? h1
        obtain ⟨_, cs0, hcs0⟩ := hm _ hmem
        obtain ⟨b, _, _, p1, p2, _⟩ := h.bxs.1 k cs0 hcs0
        obtain ⟨b2, c, e, q1, _, q3, q4, q5, q6, q7⟩ := hx.bxs.1 k' c0 (hexit i k k' c0 h1 h2)
        rw [← hβ1 k k' (lk_swap n2 hmem)] at q1
        have q1 : g.β k = some b2 := q1
        rw [p1] at q1
        simp only [Option.some.injEq] at q1
        subst q1
        exact ⟨b, c, e, p1, p2, q3, map_pw q4 fun y _ u => hren y u, q5, q6, bldT_map (ren_nilp _ _) q7⟩
      · rw [h2] at hk
        obtain ⟨cs0, hcs0⟩ := hlook0 k cs hk
        obtain ⟨b, c, e, q1, q2, q3, q4, q5, q6, q7⟩ := hb.bxs.1 k cs hk
        rw [gb2, ga2] at q1
        rw [gb1, ga1] at q6
        have hnm := hbxm k cs0 b hcs0 h1 q1
        exact ⟨b, c, e, q1, q2, by rw [hx.bel.row b hnm]; exact q3, q4.mono fun y _ u => trep_ext hext, q5, by show g1.G b = none; rw [hx.ext.1 b hnm]; exact q6, q7⟩
    · have hk0 : ∃ c0, lookBx s.bx k = some c0 := by
        rcases hput k with ⟨i, k1, c0, h1, _⟩ | ⟨_, h2⟩
        · exact (hm _ (List.mem_of_getElem? h1)).2
        · rw [h2] at hk; exact hlook0 k cs hk
      have hk0' : ∃ c0, lookBx s.bx k' = some c0 := by
        rcases hput k' with ⟨i, k1, c0, h1, _⟩ | ⟨_, h2⟩
        · exact (hm _ (List.mem_of_getElem? h1)).2
        · rw [h2] at hk'; exact hlook0 k' cs' hk'
      obtain ⟨c0, hk0⟩ := hk0
      obtain ⟨c0', hk0'⟩ := hk0'
      exact h.bxs.2 k k' c0 c0' hk0 hk0' hbe
  rw [← hs]
  exact ⟨g2, hbig.put d (hren x v hx.fr.head)⟩
end
end Nt.Ev

namespace Nt.Ev
open Go Go.RowKit
section
variable {E : Env} {B : Own} {G0 : Known} {w0 : World} {s s' : St} {g : Gh} {a : Act} {w : World} {bx : List (Nat × List V)} {o : Oper} {eff : Eff}
theorem BOk.sub {P : Program} {bx bx' : List (Nat × List V)} (h : BOk P B g bx' w) (hs : ∀ k cs, lookBx bx k = some cs → lookBx bx' k = some cs) : BOk P B g bx w :=
  ⟨fun k cs hk => h.1 k cs (hs k cs hk), fun k k' cs cs' hk hk' => h.2 k k' cs cs' (hs k cs hk) (hs k' cs' hk')⟩
theorem sres_plain {G : Known} {w : World} {B : Nat → Prop} {x : V} {v : Value} {g : Gh} (hg : g.G = G) (hl : hasL x = false) (h : sres G w B x v) : srep g x v := by
  subst hg
  cases x with
  | sl e sh ow xs =>
    cases ow with
    | none => exact h
    | some L => cases hl
  | box k off => simp only [sres] at h; unfold rep at h; exact h.elim
  | eptr _ _ _ _ _ _ => simp only [sres] at h; unfold rep at h; exact h.elim
  | old _ => simp only [sres] at h; unfold rep at h; exact h.elim
  | _ => exact h
theorem relabL_none : ∀ (d : Nat) (l : List V), l.countP hasL = 0 → ∀ b, relabL d b l = l
  | d, [], _, b => by cases b <;> rfl
  | d, x :: l, h, b => by
    rw [List.countP_cons] at h
    have hx : hasL x = false := by
      cases hq : hasL x with
      | false => rfl
      | true => rw [hq] at h; simp at h
    rw [hx] at h
    have ih := relabL_none d l (by simpa using h) b
    cases x with
    | sl e sh ow xs =>
      cases ow with
      | none => cases b <;> simp only [relabL, ih]
      | some L => cases hx
    | _ => cases b <;> simp only [relabL, ih]
theorem relab_inv (h : Inv E B G0 w0 s g a w) {d : Nat} {r : V} {v : Value} {b0 : Nat} (hd : s.noLabel d = true) (hb0 : B.n ≤ b0 ∧ ∀ b, b0 ≤ b → B.m b) (hlt : ∀ L v e sz b, g.O L = some (v, e, sz) → v.ownBlock = some b → b < b0) (hr : resrep g.G w (b0 ≤ ·) r v) :
    ∃ g', Inv E B G0 w0 s g' a w ∧ trep g' (r.relab d) v := by
  have own_ok : ∀ {e sh xs u}, ownFacts g.G w (b0 ≤ ·) e sh xs u → ownFacts g.G w (B.ok d) e sh xs u := by
    rintro e sh xs u ⟨h1, h2⟩
    refine ⟨h1, h2.imp id ?_⟩
    rintro ⟨b, cap, cur, l, hv, hb, rest⟩
    exact ⟨b, cap, cur, l, hv, ⟨hb0.2 b hb, fun _ => Nat.le_trans hb0.1 hb⟩, rest⟩
  have own_new : ∀ {e sh xs u}, ownFacts g.G w (b0 ≤ ·) e sh xs u → ∀ L v e sz b, g.O L = some (v, e, sz) → L ≠ d → v.ownBlock = some b → u.ownBlock ≠ some b := by
    rintro e sh xs u ⟨h1, h2⟩ L v e' sz b hL _ hb hu
    have h3 := hlt L v e' sz b hL hb
    rcases h2 with ⟨rfl, _⟩ | ⟨b', cap, cur, l, rfl, hb', _⟩
    · cases hu
    · simp [Value.ownBlock] at hu
      omega
  cases r with
  | tup vs =>
    obtain ⟨us, rfl, hp, hc⟩ := hr
    have key : ∀ (xs : List V) (us : List Value), PW (sres g.G w (b0 ≤ ·)) xs us → xs.countP hasL ≤ 1 → ∃ g', g'.G = g.G ∧ Inv E B G0 w0 s g' a w ∧ PW (srep g') (relabL d true xs) us := by
      intro xs
      induction xs with
      | nil => intro us hp _; exact ⟨g, rfl, h, by rw [hp.nil_iff]; exact .nil⟩
      | cons x xs ih =>
        intro us hp hc
        obtain ⟨u, t, rfl, h1, h2⟩ := hp.cons_inv
        rw [List.countP_cons] at hc
        cases hx : hasL x with
        | true =>
          rw [hx] at hc
          have h0 : xs.countP hasL = 0 := by rw [if_pos rfl] at hc; omega
          cases x with
          | sl e sh ow ys =>
            cases ow with
            | none => cases hx
            | some L =>
              have h1 : ownFacts g.G w (b0 ≤ ·) e sh ys u := h1
              obtain ⟨g', hg, hi, hs⟩ := h.label (e := e) (sh := sh) (xs := ys) (u := u) hd (own_ok h1) (own_new h1)
              refine ⟨g', hg, hi, ?_⟩
              show PW (srep g') (V.sl e sh (some d) ys :: relabL d false xs) (u :: t)
              rw [relabL_none d xs h0]
              refine .cons hs (h2.mono fun y hy v hv => sres_plain hg ?_ hv)
              have := List.countP_eq_zero.1 h0 y hy
              simpa using this
          | _ => cases hx
        | false =>
          rw [hx] at hc
          obtain ⟨g', hg, hi, hs⟩ := ih t h2 (by simpa using hc)
          refine ⟨g', hg, hi, ?_⟩
          have e1 : relabL d true (x :: xs) = x :: relabL d true xs := by
            cases x with
            | sl e sh ow ys => cases ow with
              | none => rfl
              | some L => cases hx
            | _ => rfl
          rw [e1]
          exact .cons (sres_plain hg hx h1) hs
    obtain ⟨g', _, hi, hs⟩ := key vs us hp hc
    exact ⟨g', hi, us, rfl, hs⟩
  | sl e sh ow xs =>
    cases ow with
    | none => exact ⟨g, h, hr⟩
    | some L =>
      have hr : ownFacts g.G w (b0 ≤ ·) e sh xs v := hr
      obtain ⟨g', hg, hi, hs⟩ := h.label (e := e) (sh := sh) (xs := xs) (u := v) hd (own_ok hr) (own_new hr)
      exact ⟨g', hi, hs⟩
  | box k off => simp only [resrep, sres] at hr; unfold rep at hr; exact hr.elim
  | eptr _ _ _ _ _ _ => simp only [resrep, sres] at hr; unfold rep at hr; exact hr.elim
  | old _ => simp only [resrep, sres] at hr; unfold rep at hr; exact hr.elim
  | fn f c =>
    simp only [resrep, sres] at hr
    have h2 := hr
    unfold rep at h2
    obtain ⟨_, rfl⟩ := h2
    exact ⟨g, h, trep_of_rep rfl hr⟩
  | _ => exact ⟨g, h, hr⟩
theorem unl_deep {x y : V} (h : x.deep = some y) : y.unl = y := by
  cases x with
  | fn f c => cases c <;> simp [V.deep] at h; subst h; rfl
  | _ => simp [V.deep] at h <;> subst h <;> rfl
theorem hand_plain {g : Gh} {bx : List (Nat × List V)} {MB ML : List (Nat × Nat)} : ∀ (as args : List V) (vs : List Value), hidOf as = [] → handVs bx MB ML as = some args → hasBxa args = false → PW (arep g) as vs → PW (rep g.G) (args.map V.unl) vs
  | [], args, vs, _, h, _, hp => by
    simp only [handVs, Option.some.injEq] at h
    subst h
    rw [hp.nil_iff]
    exact .nil
  | x :: as, args, vs, hno, h, hb, hp => by
    unfold hidOf at hno
    obtain ⟨hno1, hno⟩ := List.append_eq_nil_iff.1 hno
    obtain ⟨v, t, rfl, h1, h2⟩ := hp.cons_inv
    unfold handVs at h
    split at h
    · rename_i y ys hy hys
      simp only [Option.some.injEq] at h
      subst h
      unfold hasBxa at hb
      rw [List.any_cons, Bool.or_eq_false_iff] at hb
      rw [List.map_cons]
      refine .cons ?_ (hand_plain as ys t hno hys hb.2 h2)
      have deepcase : x.deep = some y → rep g.G y.unl v := by
        intro hd
        rw [unl_deep hd]
        exact h1.elim (fun h => trep_deep h hd) (fun h => srep_deep h hd)
      cases x with
      | box k off =>
        unfold handV at hy
        simp only at hy
        split at hy
        · simp only [Option.some.injEq] at hy
          subst hy
          cases hb.1
        · cases hy
      | sl e sh ow xs =>
        cases ow with
        | none => exact deepcase hy
        | some L =>
          have hy : some (renV MB ML (.sl e sh (some L) xs)) = some y := hy
          simp only [Option.some.injEq] at hy
          subst hy
          have hs : srep g (.sl e sh (some L) xs) v := h1.elim (fun h => trep_single rfl h) id
          exact ownG_rep hs.2
      | fn f c =>
        cases c with
        | nil => exact deepcase hy
        | cons c cs =>
          obtain ⟨hcb, _⟩ := cond_some (show (bif Nat.blt f ARR && allBox (c :: cs) then some (V.fn f ((c :: cs).map (renV MB ML))) else none) = some y from hy)
          rw [Bool.and_eq_true] at hcb
          have hc := hcb.2
          unfold allBox at hc
          rw [List.all_cons, Bool.and_eq_true] at hc
          have hc := hc.1
          simp only at hno1
          split at hc
          · rw [List.filterMap_cons] at hno1
            cases hno1
          · cases hc
      | _ => exact deepcase hy
    · cases h
theorem flatVal1_rep {G : Known} {x : V} {u v : Value} (h : flatVal1 x = some u) (hr : rep G x v) : v = u := by
  cases x with
  | bool b => simp only [flatVal1, Option.some.injEq] at h; unfold rep at hr; rw [hr, h]
  | int k n => simp only [flatVal1, Option.some.injEq] at h; unfold rep at hr; rw [hr, h]
  | _ => cases h
theorem flatVals_rep {G : Known} : ∀ (xs : List V) (us vs : List Value), flatVals xs = some us → PW (rep G) xs vs → vs = us
  | [], us, vs, h, hp => by simp only [flatVals, Option.some.injEq] at h; rw [hp.nil_iff, h]
  | x :: xs, us, vs, h, hp => by
    obtain ⟨v, t, rfl, h1, h2⟩ := hp.cons_inv
    unfold flatVals at h
    split at h
    · rename_i a b ha hb
      simp only [Option.some.injEq] at h
      rw [← h, flatVal1_rep ha h1, flatVals_rep xs b t hb h2]
    · cases h
theorem flatVal_rep {G : Known} {x : V} {u v : Value} (h : flatVal x = some u) (hr : rep G x v) : v = u := by
  unfold flatVal at h
  split at h
  · rename_i t cs
    split at h
    · rename_i l hl
      simp only [Option.some.injEq] at h
      unfold rep at hr
      obtain ⟨z, rfl, hz⟩ := hr
      unfold rep at hz
      obtain ⟨a, rfl, ha⟩ := hz
      rw [repL_iff] at ha
      rw [flatVals_rep cs l a hl ha, h]
    · cases h
  · rename_i t y _
    split at h
    · rename_i z hz
      simp only [Option.some.injEq] at h
      unfold rep at hr
      obtain ⟨q, rfl, hq⟩ := hr
      rw [flatVal1_rep hz hq, h]
    · cases h
  · cases h
theorem flatVal_trep {g : Gh} {x : V} {u v : Value} (h : flatVal x = some u) (hr : trep g x v) : v = u := by
  cases x with
  | iface t y => exact flatVal_rep (G := g.G) h hr
  | _ => cases h
theorem eff_pan (h : Inv E B G0 w0 s g a w) (hd : Does E.P a.eval o B w g s.bx eff) {v : V} (hr : EffPan E s eff v s') {next : Act → World → Prop} {Q : Exit → Act → World → Prop}
    (hk : ∀ g' w' u, Inv E B G0 w0 s' g' a w' → flatVal v = some u → Q (.panic [{ v := u, recovered := false }]) a w') : o.wp E.P a w next Q := by
  unfold Oper.wp
  obtain ⟨⟨u, hfu⟩, hr⟩ := hr
  cases eff with
  | call f args mb ml =>
    obtain ⟨vs, as, hu, hp, hof, hnh⟩ := hd
    obtain ⟨bs, hc, hback⟩ := hr
    rw [hu]
    refine Calls.mono (hc (handB g w mb ml) (handG g mb ml) w vs rfl (hand_entry h hp hof hnh)) ?_
    rintro e w' ⟨g1, q, rfl, hx⟩
    obtain ⟨g2, hi⟩ := hand_back h hof hnh hback hx
    have hq := flatVal_trep hfu hx.fr.head
    subst hq
    exact hk _ _ _ hi hfu
  | pan v' =>
    obtain ⟨q, hu, hq⟩ := hd
    obtain ⟨rfl, rfl⟩ := hr
    rw [hu]
    have := flatVal_rep hfu hq
    subst this
    exact hk _ _ _ h hfu
  | _ => exact hr.elim
theorem eff_inv (h : Inv E B G0 w0 s g a w) (hd : Does E.P a.eval o B w g bx eff) (hs : ∀ k cs, lookBx bx k = some cs → lookBx s.bx k = some cs) {dr : Bool} (hsb : dr = false → bx = s.bx) (hr : EffRel E dr s o.dst eff s') {next : Act → World → Prop} {Q : Exit → Act → World → Prop}
    (hk : ∀ g' a' w', Inv E B G0 w0 s' g' a' w' → (∃ u, a' = a.put o.dst u) → next a' w') : o.wp E.P a w next Q := by
  unfold Oper.wp
  cases eff with
  | val v =>
    obtain ⟨u, hu, ht⟩ := hd
    have e1 : s' = s.put o.dst v := hr
    subst e1
    rw [hu]
    exact hk g _ _ (h.put o.dst ht) ⟨u, rfl⟩
  | newSl e sh xs =>
    obtain ⟨u, w', G', hu, hn, ht⟩ := hd
    obtain ⟨h1, _⟩ := h.new hn
    rw [hu]
    have e1 : s' = s.put o.dst (.sl e sh none xs) := hr
    subst e1
    exact hk _ _ _ (h1.put o.dst (v := .sl e sh none xs) ht) ⟨u, rfl⟩
  | own e sh xs =>
    obtain ⟨u, w', G', hu, hn, hf⟩ := hd
    obtain ⟨k, hk1, hk2, hk4, rfl⟩ := hr
    obtain ⟨h1, _⟩ := h.new hn
    rw [hu]
    have hf' : ownFacts G' w' (B.ok k) e sh xs u := by
      refine ⟨hf.1, hf.2.imp id ?_⟩
      rintro ⟨b, cap, cur, l, hv, hb, rest⟩
      exact ⟨b, cap, cur, l, hv, ⟨h.hB.2 b hb, fun _ => Nat.le_trans h.hB.1 hb⟩, rest⟩
    have h1' := h1.put (some k) (v := .any) (u := u) trep_any
    obtain ⟨g', hg, hi, ht⟩ := h1'.label (e := e) (sh := sh) (xs := xs) (u := u) hk2 hf' (by
      intro L v e' sz b hL _ hb hub
      have h3 := own_lt h.gok h.own hL hb
      rcases hf.2 with ⟨rfl, _⟩ | ⟨b', cap, cur, l, rfl, hb', _⟩
      · cases hub
      · simp [Value.ownBlock] at hub; omega)
    have := hi.put (some k) (v := .sl e sh (some k) xs) (u := u) ht
    rw [show (s.put (some k) .any).put (some k) (.sl e sh (some k) xs) = s.put (some k) (.sl e sh (some k) xs) by simp [St.put], show (a.put (some k) u).put (some k) u = a.put (some k) u by simp [Act.put]] at this
    rw [Oper.upon_value]
    rw [hk1] at hk ⊢
    exact hk _ _ _ this ⟨u, rfl⟩
  | app L e sh xs =>
    obtain ⟨v0, u, w', G', hOL, hu, hgr, hG1, hmore, hGk, hf, hub⟩ := hd
    obtain ⟨k, hk1, hk2, hk4, rfl⟩ := hr
    have h1 := h.kill L
    rw [hu]
    have hrow : ∀ b, v0.ownBlock = some b → B.ok L b := by
      intro b hb
      rcases (h.own.1 L v0 e sh.length hOL).2 with hv | ⟨b', n, cap, cur, l, hv, hB', _⟩
      · rw [hv] at hb; cases hb
      · rw [hv] at hb; simp [Value.ownBlock] at hb; subst hb; exact hB'
    have hother : ∀ L' v e' sz b, (if L' = L then none else g.O L') = some (v, e', sz) → v.ownBlock = some b → b < w.heap.size ∧ some b ≠ v0.ownBlock := by
      intro L' v e' sz b hL' hb
      split at hL'
      · cases hL'
      · rename_i hne
        refine ⟨own_lt h.gok h.own hL' hb, fun e1 => hne ?_⟩
        exact h.own.2 L' L v v0 _ _ _ _ b hL' hOL hb e1.symm
    have hext : Ext { g with O := fun k => if k = L then none else g.O k } { g with O := (fun k => if k = L then none else g.O k), G := G' } :=
      ⟨hmore, fun _ _ h => h, fun L' v e' sz b hL' hb => by obtain ⟨h2, h3⟩ := hother L' v e' sz b hL' hb; exact hG1 b h2 h3, fun _ _ h => h, rfl⟩
    have h2 : Inv E B G0 w0 (s.kill L) { g with O := (fun k => if k = L then none else g.O k), G := G' } a w' := by
      refine ⟨h1.fr.mono fun x _ v => trep_ext hext, h1.df, hGk, ⟨fun L' v e' sz hL' => ?_, h1.own.2⟩, ⟨fun j cs hj => ?_, h1.bxs.2⟩, ?_, hB_mono h.hB hgr.size, ⟨fun b hb => ?_, h.ext.2.1.trans hmore, h.ext.2.2⟩, h1.glob, h1.g1⟩
      · obtain ⟨p1, p2⟩ := h1.own.1 L' v e' sz hL'
        refine ⟨p1, p2.imp id ?_⟩
        rintro ⟨b, n, cap, cur, l, hv, hb, hh, hnc, hcm, hcs, hGb, hl⟩
        obtain ⟨q1, q2⟩ := hother L' v e' sz b hL' (by rw [hv]; rfl)
        exact ⟨b, n, cap, cur, l, hv, hb, by rw [hgr.block b q1 q2]; exact hh, hnc, hcm, hcs, by show G' b = _; rw [hG1 b q1 q2]; exact hGb, hl⟩
      · obtain ⟨b, c, e2, hb, hBb, hh, hp, ho, hGb, hq⟩ := h1.bxs.1 j cs hj
        have hlt := (Array.getElem?_eq_some_iff.1 hh).1
        have hne : some b ≠ v0.ownBlock := by
          intro e1
          rcases (h.own.1 L v0 e sh.length hOL).2 with hv | ⟨b', n, cap, cur, l, hv, hB', hh', _, _, _, hG', _⟩
          · rw [hv] at e1; cases e1
          · rw [hv] at e1
            simp [Value.ownBlock] at e1
            subst e1
            have hGb : g.G b = none := hGb
            rw [hGb] at hG'; cases hG'
        exact ⟨b, c, e2, hb, hBb, by rw [hgr.block b hlt hne]; exact hh, hp.mono fun x _ v => trep_ext hext, ho, by show G' b = _; rw [hG1 b hlt hne]; exact hGb, hq⟩
      · refine h.bel.trans ⟨⟨hgr.os, hgr.tape, hgr.output, hgr.size, fun b hb => by omega⟩, fun b hb => hgr.block b (Nat.lt_of_not_le fun e => hb (h.hB.2 b e)) fun e1 => hb (hrow b e1.symm).1⟩
      · have hlt : b < w.heap.size := Nat.lt_of_not_le fun e => hb (h.hB.2 b e)
        have hne : some b ≠ v0.ownBlock := fun e1 => hb (hrow b e1.symm).1
        exact (hG1 b hlt hne).trans (h.ext.1 b hb)
    have hf2 : ownFacts G' w' (B.ok (clsN true L k)) e sh xs u := by
      refine ⟨hf.1, hf.2.imp id ?_⟩
      rintro ⟨b, cap, cur, l, hv, hb, rest⟩
      exact ⟨b, cap, cur, l, hv, ⟨hb.1, fun hlt => hb.2 (cls_lt hk4 hlt)⟩, rest⟩
    obtain ⟨g', hg, hi, ht⟩ := h2.label (e := e) (sh := sh) (xs := xs) (u := u) hk2 hf2 (by
      intro L' v e' sz b hL' _ hb hub'
      obtain ⟨q1, q2⟩ := hother L' v e' sz b hL' hb
      rcases hub with hub | hub
      · rw [hub'] at hub; exact q2 hub
      · have := hub b hub'; omega)
    have := hi.put (some k) (v := .sl e sh (some (clsN true L k)) xs) (u := u) ht
    rw [Oper.upon_value]
    rw [hk1] at hk ⊢
    exact hk _ _ _ this ⟨u, rfl⟩
  | newBox e cs =>
    obtain ⟨c, hu, hp, ho, hq⟩ := hd
    obtain ⟨k, hk1, hk2, hk3, hk4, rfl⟩ := hr
    rw [hu]
    obtain ⟨g', hi⟩ := h.newBox (e := e) hk4 hk2 hp ho hk3 hq
    rw [Oper.upon_value]
    rw [hk1] at hk ⊢
    exact hk _ _ _ hi ⟨_, rfl⟩
  | put k off cs =>
    obtain ⟨b, c, e, us, old, hb, hl, hh, hp, hu, hv, ho, hle⟩ := hd
    obtain ⟨old', hl', hq, rfl⟩ := hr
    rw [hs k old hl] at hl'
    simp only [Option.some.injEq] at hl'
    subst hl'
    rw [hu]
    have h1 := h.store (off := off) (vs := cs) (us := us) hb (hs k old hl) hh hp hv ho hle hq
    exact hk _ _ _ (h1.put o.dst (v := .tup []) (u := undef) ⟨[], rfl, .nil⟩) ⟨_, rfl⟩
  | call f args mb ml =>
    obtain ⟨vs, as, hu, hp, hof, hnh⟩ := hd
    rw [hu]
    rcases hr with ⟨hbx, hr⟩ | ⟨hdr, x, bs, hc, hback⟩
    · have hpl : PW (rep g.G) (args.map V.unl) vs := by
        obtain ⟨e1, e2, hv, _⟩ := handOf_spec hof
        obtain ⟨A, H, rfl, hA, hH⟩ := handVs_append as (hidOf as) args hv
        have hbx2 : hasBxa A = false ∧ hasBxa H = false := by
          unfold hasBxa at hbx ⊢
          rw [List.any_append, Bool.or_eq_false_iff] at hbx
          exact hbx
        have hH0 := hid_bxa (hid_hid (hidOf as) H (hidOf_shape as) hH) hbx2.2
        subst hH0
        have hh0 : hidOf as = [] := by
          cases hq : hidOf as with
          | nil => rfl
          | cons x t =>
            rw [hq] at hH
            unfold handVs at hH
            split at hH <;> simp at hH
        rw [List.append_nil]
        exact hand_plain as A vs hh0 hA hbx2.1 hp
      have key : ∀ r, Contract E f (args.map V.unl) r → (∀ v w' G', New w w' g.G G' → resrep G' w' (w.heap.size ≤ ·) r v → next (a.put o.dst v) w') → o.upon E.P a next Q (.ok (.enter f vs.toArray) w) := by
        intro r hc hn
        refine Calls.mono (hc g.G w vs h.gok h.globG hpl) ?_
        rintro e w' ⟨v, G', rfl, h1, h2⟩
        exact hn v w' G' h1 h2
      rcases hr with ⟨k, r, hk1, hk2, hk3, hc, rfl⟩ | ⟨r, hk1, hc, rfl⟩
      · refine key r hc fun v w' G' hn hres => ?_
        obtain ⟨h1, _⟩ := h.new hn
        obtain ⟨g', hi, ht⟩ := relab_inv h1 (d := k) (r := r) (v := v) (b0 := w.heap.size) hk2 h.hB (fun L v e sz b hL hb => own_lt h.gok h.own hL hb) hres
        have := hi.put (some k) ht
        rw [hk1] at hk ⊢
        exact hk _ _ _ this ⟨v, rfl⟩
      · refine key r hc fun v w' G' hn hres => ?_
        obtain ⟨h1, _⟩ := h.new hn
        have := h1.put none (v := .any) (u := v) trep_any
        rw [hk1] at hk ⊢
        exact hk _ _ _ this ⟨v, rfl⟩
    · rw [hsb hdr] at hof
      refine Calls.mono (hc (handB g w mb ml) (handG g mb ml) w vs rfl (hand_entry h hp hof hnh)) ?_
      rintro e w' ⟨g1, v, rfl, hx⟩
      obtain ⟨g2, hi⟩ := hand_back h hof hnh hback hx
      exact hk _ _ _ hi ⟨v, rfl⟩
  | pan v => exact hr.elim
  | pick b x y =>
    obtain ⟨u, hu, ht⟩ := hd
    rw [hu]
    cases b with
    | true =>
      have e1 : s' = s.put o.dst x := hr
      subst e1
      exact hk _ _ _ (h.put o.dst ht) ⟨u, rfl⟩
    | false =>
      have e1 : s' = s.put o.dst y := hr
      subst e1
      exact hk _ _ _ (h.put o.dst ht) ⟨u, rfl⟩
  | lput L e k ys =>
    obtain ⟨v0, b, c, l, i, u, xs, h1, h2, h3, h4, h5, h6, h7, h8, h9, h10, hu⟩ := hd
    obtain ⟨r1, rfl⟩ := hr
    rw [hu]
    obtain ⟨g', hi⟩ := h.forget.lput h1 h2 h3 h4 h5 h6 h7 h8 h9 h10 (forget_noRef s) r1
    exact hk g' _ _ (hi.put o.dst (v := .tup []) (u := undef) ⟨[], rfl, .nil⟩) ⟨_, rfl⟩
  | alts i vs =>
    obtain ⟨j, v, h1, h2, rfl⟩ := hr
    obtain ⟨u, hu, ht⟩ := hd j v h1 h2
    rw [hu]
    exact hk g _ _ (h.put o.dst ht) ⟨u, rfl⟩
def wantV (ops : List Oper) (s : St) (o : Oper) : Option Bool :=
  match o.guard with
  | none => some true
  | some (j, want) => match ops[j]? with
    | none => none
    | some oj => match oj.dst with
      | none => none
      | some d => match slot s.fr d with
        | .bool b => some (b == want)
        | .tup [] => some false
        | _ => none
theorem slot_pw (h : PW (trep g) s.fr a.tmps.toList) {d : Nat} {x : V} (hx : slot s.fr d = x) (hne : x ≠ .any) : d < s.fr.length ∧ ∃ u, a.tmps[d]? = some u ∧ trep g x u := by
  unfold slot at hx
  have hd : d < s.fr.length := by
    refine Nat.lt_of_not_le fun hle => hne ?_
    rw [← hx, List.getD_eq_getElem?_getD, List.getElem?_eq_none hle]; rfl
  obtain ⟨u, hu, ht⟩ := h.get (getD_some hd)
  rw [hx] at ht
  exact ⟨hd, u, by simpa using hu, ht⟩
theorem wantV_sound {ops : Array Oper} (h : PW (trep g) s.fr a.tmps.toList) {b : Bool} (hw : wantV ops.toList s o = some b) : Region.wanted o (yielded ops a.tmps) = b := by
  unfold wantV at hw
  unfold Region.wanted
  split at hw
  · rename_i hg
    rw [hg]
    simp only [Option.some.injEq] at hw
    exact hw
  · rename_i j want hg
    rw [hg]
    simp only
    split at hw
    · cases hw
    · rename_i oj hoj
      split at hw
      · cases hw
      · rename_i d hd
        have hoj' : ops[j]? = some oj := by simpa using hoj
        split at hw
        · rename_i c hc
          obtain ⟨_, u, hu, ht⟩ := slot_pw h hc (by intro e; cases e)
          rw [trep_bool] at ht
          subst ht
          simp only [Option.some.injEq] at hw
          subst hw
          simp [yielded, hoj', hd, hu]
        · rename_i hc
          obtain ⟨_, u, hu, ht⟩ := slot_pw h hc (by intro e; cases e)
          obtain ⟨us, rfl, hp⟩ := ht
          simp only [Option.some.injEq] at hw
          subst hw
          simp [yielded, hoj', hd, hu]
        · cases hw
def StepRel (E : Env) (ops : List Oper) (bx : Option (List (Nat × List V))) (s : St) (o : Oper) (s' : St) : Prop :=
  (wantV ops s o = some true ∧ ∃ eff, opR E s.fr (match bx with | some b => b | none => s.bx) o = some (true, eff) ∧ (bx.isSome && effBad eff) = false ∧ EffRel E bx.isSome s o.dst eff s') ∨ (wantV ops s o = some false ∧ s' = s.put o.dst (.tup []))
inductive Trace (E : Env) (ops : List Oper) (bx : Option (List (Nat × List V))) : List Oper → St → St → Prop
  | nil (s : St) : Trace E ops bx [] s s
  | cons {o : Oper} {l : List Oper} {s s1 s' : St} (h : StepRel E ops bx s o s1) (t : Trace E ops bx l s1 s') : Trace E ops bx (o :: l) s s'
theorem sel_some {α : Type} {c : Bool} {x y : Option α} {r : α} (h : sel c x y = some r) : (c = true ∧ x = some r) ∨ (c = false ∧ y = some r) := by
  cases c
  · exact .inr ⟨rfl, h⟩
  · exact .inl ⟨rfl, h⟩
theorem set_same {fr : List V} {d : Nat} {x : V} (h : slot fr d = x) : fr.set d x = fr := by
  by_cases hd : d < fr.length
  · unfold slot at h
    rw [List.getD_eq_getElem?_getD, List.getElem?_eq_getElem hd] at h
    simp only [Option.getD_some] at h
    rw [← h]
    exact List.set_getElem_self hd
  · exact List.set_eq_of_length_le (by omega)
theorem forceL_eq {β : Type} : ∀ (l : List V) (k : List V → β), forceL l k = k l
  | [], _ => rfl
  | v :: l, k => by unfold forceL; exact forceL_eq l _
theorem pf_eq {α : Type} (K : St → Option α) : pf K = K := by
  funext s
  unfold pf
  rw [forceL_eq]
inductive TraceP (E : Env) (ops : List Oper) : List Oper → St → V → St → Prop
  | here {o : Oper} {l : List Oper} {s s' : St} {eff : Eff} {v : V} (hw : wantV ops s o = some true) (ho : opR E s.fr s.bx o = some (true, eff)) (h : EffPan E s eff v s') : TraceP E ops (o :: l) s v s'
  | next {o : Oper} {l : List Oper} {s s1 s' : St} {v : V} (h : StepRel E ops none s o s1) (t : TraceP E ops l s1 v s') : TraceP E ops (o :: l) s v s'
theorem evOp_rel {α : Type} {call : Caller α} (hc : CallOk E call) {bx : Option (List (Nat × List V))} {K : St → Option α} {KP : V → St → Option α} {r : α} (h : evOp E call bx o s K KP = some r) :
    (∃ eff s', (opR E s.fr (match bx with | some b => b | none => s.bx) o = some (true, eff) ∧ (bx.isSome && effBad eff) = false ∧ EffRel E bx.isSome s o.dst eff s') ∧ K s' = some r) ∨
    (bx = none ∧ ∃ eff v s', opR E s.fr s.bx o = some (true, eff) ∧ EffPan E s eff v s' ∧ KP v s' = some r) := by
  unfold evOp at h
  split at h
  · cases h
  · rename_i c eff ho
    cases hb : bx.isSome && effBad eff with
    | true => rw [hb] at h; cases h
    | false =>
    rw [hb, cond_false] at h
    rcases sel_some h with ⟨rfl, h⟩ | ⟨_, h⟩
    · rcases effK_rel hc h with ⟨s', h1, h2⟩ | ⟨h0, v, s', h1, h2⟩
      · exact .inl ⟨eff, s', ⟨ho, hb, h1⟩, h2⟩
      · cases bx with
        | some b => cases h0
        | none => exact .inr ⟨rfl, eff, v, s', ho, h1, h2⟩
    · cases h
theorem evOps_rel {α : Type} {call : Caller α} (hc : CallOk E call) {ops : List Oper} {bx : Option (List (Nat × List V))} {KP : V → St → Option α} : ∀ (l : List Oper) (s : St) (K : St → Option α) (r : α), evOps E call ops bx KP l s K = some r →
    (∃ s', Trace E ops bx l s s' ∧ K s' = some r) ∨ (bx = none ∧ ∃ v s', TraceP E ops l s v s' ∧ KP v s' = some r)
  | [], s, K, r, h => .inl ⟨s, .nil s, h⟩
  | o :: l, s, K, r, h => by
    have skip : ∀ (hw : wantV ops s o = some false), evOps E call ops bx KP l (s.put o.dst (.tup [])) K = some r → (∃ s', Trace E ops bx (o :: l) s s' ∧ K s' = some r) ∨ (bx = none ∧ ∃ v s', TraceP E ops (o :: l) s v s' ∧ KP v s' = some r) := by
      intro hw h
      rcases evOps_rel hc l _ K r h with ⟨s', h4, h5⟩ | ⟨hb, v, s', h4, h5⟩
      · exact .inl ⟨s', .cons (.inr ⟨hw, rfl⟩) h4, h5⟩
      · subst hb
        exact .inr ⟨rfl, v, s', .next (.inr ⟨hw, rfl⟩) h4, h5⟩
    have take : ∀ (hw : wantV ops s o = some true), evOp E call bx o s (fun s => evOps E call ops bx KP l s K) KP = some r → (∃ s', Trace E ops bx (o :: l) s s' ∧ K s' = some r) ∨ (bx = none ∧ ∃ v s', TraceP E ops (o :: l) s v s' ∧ KP v s' = some r) := by
      intro hw h
      rcases evOp_rel hc h with ⟨eff, s1, h1, h3⟩ | ⟨hb, eff, v, s', h1, h2, h3⟩
      · rcases evOps_rel hc l s1 K r h3 with ⟨s', h4, h5⟩ | ⟨hb, v, s', h4, h5⟩
        · exact .inl ⟨s', .cons (.inl ⟨hw, eff, h1⟩) h4, h5⟩
        · subst hb
          exact .inr ⟨rfl, v, s', .next (.inl ⟨hw, eff, h1⟩) h4, h5⟩
      · subst hb
        exact .inr ⟨rfl, v, s', .here hw h1 h2, h3⟩
    unfold evOps at h
    simp only [pf_eq] at h
    split at h
    · rename_i hg
      exact take (by unfold wantV; rw [hg]) h
    · rename_i j want hg
      unfold guardV at h
      split at h
      · cases h
      · rename_i oj hoj
        split at h
        · cases h
        · rename_i d hd
          split at h
          · rename_i b hb
            have hs : ∀ c, b = c → (⟨s.fr.set d (.bool c), s.bx⟩ : St) = s := by
              intro c e
              subst e
              rw [set_same hb]
            rcases sel_some h with ⟨hbt, h⟩ | ⟨hbt, h⟩
            · rw [hs true hbt] at h
              cases want with
              | true => exact take (by unfold wantV; simp [hg, hoj, hd, hb, hbt]) h
              | false => exact skip (by unfold wantV; simp [hg, hoj, hd, hb, hbt]) h
            · rw [hs false hbt] at h
              cases want with
              | true => exact skip (by unfold wantV; simp [hg, hoj, hd, hb, hbt]) h
              | false => exact take (by unfold wantV; simp [hg, hoj, hd, hb, hbt]) h
          · rename_i hb
            exact skip (by unfold wantV; simp [hg, hoj, hd, hb]) h
          · cases h
theorem trace_wp (hE : EOk E) {ops : Array Oper} {Q : Exit → Act → World → Prop} : ∀ (l : List Oper) (i : Nat) (s s' : St) (g : Gh) (a : Act) (w : World), ops.toList.drop i = l → Trace E ops.toList none l s s' → Inv E B G0 w0 s g a w →
    (∀ g' a' w', Inv E B G0 w0 s' g' a' w' → Q .normal a' w') → wpOps E.P ops Q (List.range' i l.length) a w
  | [], i, s, s', g, a, w, hd, ht, h, hk => by
    cases ht
    exact hk g a w h
  | o :: l, i, s, s', g, a, w, hd, ht, h, hk => by
    cases ht with
    | cons hs ht =>
      rename_i s1
      have hi : ops[i]? = some o := by
        have := congrArg (fun l => l[0]?) hd
        simpa using this
      have hd' : ops.toList.drop (i + 1) = l := by
        rw [← List.drop_drop, hd]; rfl
      rw [List.length_cons, List.range'_succ]
      unfold wpOps
      rw [hi]
      simp only
      rcases hs with ⟨hw, eff, ho, _, hr⟩ | ⟨hw, rfl⟩
      · rw [if_pos (wantV_sound h.fr hw)]
        refine .inl ?_
        have hdo := opR_sound (ac := a) (B := B) (w := w) (g := g) hE rfl h.gok h.own h.bxs h.hB h.m1 (fun y => evalO_rep h.fr h.globG y) ho
        exact eff_inv h hdo (fun _ _ h => h) (fun _ => rfl) hr fun g' a' w' h' _ => trace_wp hE l (i + 1) s1 s' g' a' w' hd' ht h' hk
      · rw [if_neg (by rw [wantV_sound h.fr hw]; decide)]
        exact trace_wp hE l (i + 1) _ s' g _ w hd' ht (h.put o.dst (v := .tup []) (u := undef) ⟨[], rfl, .nil⟩) hk
theorem traceP_wp (hE : EOk E) {ops : Array Oper} {Q : Exit → Act → World → Prop} {v : V} : ∀ (l : List Oper) (i : Nat) (s s' : St) (g : Gh) (a : Act) (w : World), ops.toList.drop i = l → TraceP E ops.toList l s v s' → Inv E B G0 w0 s g a w →
    (∀ g' a' w' u, Inv E B G0 w0 s' g' a' w' → flatVal v = some u → Q (.panic [{ v := u, recovered := false }]) a' w') → wpOps E.P ops Q (List.range' i l.length) a w
  | [], i, s, s', g, a, w, hd, ht, h, hk => by cases ht
  | o :: l, i, s, s', g, a, w, hd, ht, h, hk => by
    have hi : ops[i]? = some o := by
      have := congrArg (fun l => l[0]?) hd
      simpa using this
    have hd' : ops.toList.drop (i + 1) = l := by
      rw [← List.drop_drop, hd]; rfl
    rw [List.length_cons, List.range'_succ]
    unfold wpOps
    rw [hi]
    simp only
    cases ht with
    | here hw ho hp =>
      rw [if_pos (wantV_sound h.fr hw)]
      refine .inl ?_
      have hdo := opR_sound (ac := a) (B := B) (w := w) (g := g) hE rfl h.gok h.own h.bxs h.hB h.m1 (fun y => evalO_rep h.fr h.globG y) ho
      exact eff_pan h hdo hp fun g' w' u h' hu => hk g' a w' u h' hu
    | next hs ht =>
      rename_i s1
      rcases hs with ⟨hw, eff, ho, _, hr⟩ | ⟨hw, rfl⟩
      · rw [if_pos (wantV_sound h.fr hw)]
        refine .inl ?_
        have hdo := opR_sound (ac := a) (B := B) (w := w) (g := g) hE rfl h.gok h.own h.bxs h.hB h.m1 (fun y => evalO_rep h.fr h.globG y) ho
        exact eff_inv h hdo (fun _ _ h => h) (fun _ => rfl) hr fun g' a' w' h' _ => traceP_wp hE l (i + 1) s1 s' g' a' w' hd' ht h' hk
      · rw [if_neg (by rw [wantV_sound h.fr hw]; decide)]
        exact traceP_wp hE l (i + 1) _ s' g _ w hd' ht (h.put o.dst (v := .tup []) (u := undef) ⟨[], rfl, .nil⟩) hk
end
end Nt.Ev

namespace Nt.Ev
open Go Go.RowKit
structure Chg where
  d : Nat
  v : V
  bx : Option (List V)
def Chg.app (c : Chg) (s : St) : St := ⟨s.fr.set c.d c.v, match c.bx with | some cs => (c.d, cs) :: s.bx | none => s.bx⟩
def selSt (sel : Nat → Bool) : List Chg → Nat → St → St
  | [], _, s => s
  | c :: l, k, s => selSt sel l (k + 1) (if sel k = true then c.app s else s)
structure Alike (s s' : St) : Prop where
  fr : s.fr = s'.fr
  bx : ∀ k, lookBx s.bx k = lookBx s'.bx k
theorem Alike.refl (s : St) : Alike s s := ⟨rfl, fun _ => rfl⟩
theorem Alike.trans {a b c : St} (h : Alike a b) (k : Alike b c) : Alike a c := ⟨h.fr.trans k.fr, fun j => (h.bx j).trans (k.bx j)⟩
theorem Alike.app {a b : St} (h : Alike a b) (c : Chg) : Alike (c.app a) (c.app b) := by
  refine ⟨by simp [Chg.app, h.fr], fun k => ?_⟩
  unfold Chg.app
  cases c.bx with
  | none => exact h.bx k
  | some cs => simp only [lookBx]; rw [h.bx k]
theorem Alike.comm (s : St) {c c' : Chg} (h : c.d ≠ c'.d) : Alike (c.app (c'.app s)) (c'.app (c.app s)) := by
  refine ⟨by simp [Chg.app, List.set_comm _ _ (fun e => h e.symm)], fun k => ?_⟩
  unfold Chg.app
  cases hb : c.bx <;> cases hb' : c'.bx <;> simp only [lookBx]
  by_cases h1 : c.d = k
  · have e1 : (c.d == k) = true := by simpa using h1
    have e2 : (c'.d == k) = false := by rw [beq_eq_false_iff_ne]; intro e; exact h (h1.trans e.symm)
    rw [e1, e2]; rfl
  · have e1 : (c.d == k) = false := by simpa using h1
    rw [e1]; rfl
theorem selSt_alike (sel : Nat → Bool) : ∀ (l : List Chg) (k : Nat) (s s' : St), Alike s s' → Alike (selSt sel l k s) (selSt sel l k s')
  | [], _, _, _, h => h
  | c :: l, k, s, s', h => by
    unfold selSt
    refine selSt_alike sel l (k + 1) _ _ ?_
    split
    · exact h.app c
    · exact h
theorem selSt_app (sel : Nat → Bool) (c : Chg) : ∀ (l : List Chg) (k : Nat) (s : St), (∀ c' ∈ l, c'.d ≠ c.d) → Alike (c.app (selSt sel l k s)) (selSt sel l k (c.app s))
  | [], _, _, _ => .refl _
  | c' :: l, k, s, h => by
    unfold selSt
    refine (selSt_app sel c l (k + 1) _ fun x hx => h x (List.mem_cons_of_mem _ hx)).trans (selSt_alike sel l (k + 1) _ _ ?_)
    split
    · exact Alike.comm s fun e => h c' List.mem_cons_self e.symm
    · exact .refl _
theorem selSt_congr (sel sel' : Nat → Bool) : ∀ (l : List Chg) (k : Nat) (s : St), (∀ i, k ≤ i → i < k + l.length → sel i = sel' i) → selSt sel l k s = selSt sel' l k s
  | [], _, _, _ => rfl
  | c :: l, k, s, h => by
    unfold selSt
    rw [h k (Nat.le_refl _) (by simp)]
    exact selSt_congr sel sel' l (k + 1) _ fun i h1 h2 => h i (by omega) (by simp; omega)
theorem selSt_more (sel : Nat → Bool) (i : Nat) : ∀ (l : List Chg) (k : Nat) (s : St) (c : Chg), k ≤ i → l[i - k]? = some c → sel i = false → (l.map (·.d)).Nodup →
    Alike (c.app (selSt sel l k s)) (selSt (fun j => if j = i then true else sel j) l k s)
  | [], k, s, c, hk, hc, _, _ => by simp at hc
  | c' :: l, k, s, c, hk, hc, hs, hn => by
    simp only [List.map_cons, List.nodup_cons] at hn
    by_cases e : i = k
    · subst e
      simp only [Nat.sub_self, List.getElem?_cons_zero, Option.some.injEq] at hc
      subst hc
      unfold selSt
      rw [hs, if_neg (by decide), if_pos rfl, if_pos rfl]
      refine (selSt_app sel c' l (i + 1) s fun x hx e => hn.1 (e ▸ List.mem_map_of_mem hx)).trans ?_
      rw [selSt_congr sel (fun j => if j = i then true else sel j) l (i + 1) _ fun j h1 _ => by
        have : j ≠ i := by omega
        simp [this]]
      exact .refl _
    · unfold selSt
      have e2 : ¬ k = i := fun h => e h.symm
      rw [if_neg e2]
      refine selSt_more sel i l (k + 1) _ c (by omega) ?_ hs hn.2
      rw [show i - k = (i - (k + 1)) + 1 by omega] at hc
      simpa using hc
theorem selSt_len (sel : Nat → Bool) : ∀ (l : List Chg) (k : Nat) (s : St), (selSt sel l k s).fr.length = s.fr.length
  | [], _, _ => rfl
  | c :: l, k, s => by
    unfold selSt
    rw [selSt_len sel l (k + 1)]
    split
    · simp [Chg.app]
    · rfl
theorem slot_set_ne {fr : List V} {d t : Nat} {v : V} (h : t ≠ d) : slot (fr.set d v) t = slot fr t := by
  unfold slot
  rw [List.getD_eq_getElem?_getD, List.getD_eq_getElem?_getD, List.getElem?_set_ne (fun e => h e.symm)]
theorem slot_set_eq {fr : List V} {d : Nat} {v : V} (h : d < fr.length) : slot (fr.set d v) d = v := by
  unfold slot
  rw [List.getD_eq_getElem?_getD, List.getElem?_set_self h]; rfl
theorem selSt_other (sel : Nat → Bool) (t : Nat) : ∀ (l : List Chg) (k : Nat) (s : St), (∀ c ∈ l, c.d ≠ t) → slot (selSt sel l k s).fr t = slot s.fr t
  | [], _, _, _ => rfl
  | c :: l, k, s, h => by
    unfold selSt
    rw [selSt_other sel t l (k + 1) _ fun x hx => h x (List.mem_cons_of_mem _ hx)]
    split
    · exact slot_set_ne fun e => h c List.mem_cons_self e.symm
    · rfl
theorem selSt_slot (sel : Nat → Bool) (j : Nat) : ∀ (l : List Chg) (k : Nat) (s : St) (c : Chg), k ≤ j → l[j - k]? = some c → (l.map (·.d)).Nodup → c.d < s.fr.length → slot (selSt sel l k s).fr c.d = if sel j = true then c.v else slot s.fr c.d
  | [], k, s, c, hk, hc, _, _ => by simp at hc
  | c' :: l, k, s, c, hk, hc, hn, hd => by
    simp only [List.map_cons, List.nodup_cons] at hn
    unfold selSt
    by_cases e : j = k
    · subst e
      simp only [Nat.sub_self, List.getElem?_cons_zero, Option.some.injEq] at hc
      subst hc
      rw [selSt_other sel c'.d l (j + 1) _ fun x hx e => hn.1 (e ▸ List.mem_map_of_mem hx)]
      split
      · exact slot_set_eq hd
      · rfl
    · rw [show j - k = (j - (k + 1)) + 1 by omega] at hc
      have hc' : l[j - (k + 1)]? = some c := by simpa using hc
      rw [selSt_slot sel j l (k + 1) _ c (by omega) hc' hn.2 (by split <;> simpa [Chg.app] using hd)]
      split
      · rfl
      · split
        · refine slot_set_ne fun e2 => hn.1 ?_
          rw [← e2]
          exact List.mem_map_of_mem (List.mem_of_getElem? hc')
        · rfl
section
variable {E : Env} {B : Own} {G0 : Known} {w0 : World}
theorem Inv.alike {s s' : St} {g : Gh} {a : Act} {w : World} (h : Inv E B G0 w0 s g a w) (k : Alike s s') : Inv E B G0 w0 s' g a w :=
  ⟨by rw [← k.fr]; exact h.fr, h.df, h.gok, h.own, ⟨fun j cs hj => h.bxs.1 j cs ((k.bx j).trans hj), fun j j' cs cs' hj hj' => h.bxs.2 j j' cs cs' ((k.bx j).trans hj) ((k.bx j').trans hj')⟩, h.bel, h.hB, h.ext, h.glob, h.g1⟩
end
end Nt.Ev

namespace Nt.Ev
open Go Go.RowKit
theorem opX_congr {P : Program} {r r' : Operand → V} {bx : List (Nat × List V)} {o : Oper} (h : ∀ x ∈ o.op.operands.toList, r x = r' x) : opX P r bx o = opX P r' bx o := by
  have hmap : ∀ l : List Operand, (∀ x ∈ l, r x = r' x) → l.map r = l.map r' := fun l hl => List.map_congr_left hl
  unfold opX
  simp only
  cases ho : o.op with
  | move x => simp only; rw [h x (by simp [ho, Op.operands])]
  | assign x => simp only; rw [h x (by simp [ho, Op.operands])]
  | pick c x y => simp only; rw [h c (by simp [ho, Op.operands]), h x (by simp [ho, Op.operands]), h y (by simp [ho, Op.operands])]
  | alloc t => rfl
  | box t x => simp only; rw [h x (by simp [ho, Op.operands])]
  | build t parts =>
    simp only
    have : (parts.toList.map fun (i, x) => (i, r x)) = parts.toList.map fun (i, x) => (i, r' x) := by
      refine List.map_congr_left fun p hp => ?_
      obtain ⟨i, x⟩ := p
      simp only
      rw [h x (by rw [ho]; simp only [Op.operands]; simp; exact ⟨i, by simpa using hp⟩)]
    rw [this]
  | buildSlice t n parts =>
    simp only
    have : (parts.toList.map fun (i, x) => (i, r x)) = parts.toList.map fun (i, x) => (i, r' x) := by
      refine List.map_congr_left fun p hp => ?_
      obtain ⟨i, x⟩ := p
      simp only
      rw [h x (by rw [ho]; simp only [Op.operands]; simp; exact ⟨i, by simpa using hp⟩)]
    rw [this]
  | load t x => simp only; rw [h x (by simp [ho, Op.operands])]
  | store t x y => simp only; rw [h x (by simp [ho, Op.operands]), h y (by simp [ho, Op.operands])]
  | nilCheck x => simp only; rw [h x (by simp [ho, Op.operands])]
  | binOp op t x y yt => simp only; rw [h x (by simp [ho, Op.operands]), h y (by simp [ho, Op.operands])]
  | makeInterface t x => simp only; rw [h x (by simp [ho, Op.operands])]
  | typeAssert x xt t b =>
    cases b with
    | true => simp only; rw [h x (by simp [ho, Op.operands])]
    | false => rfl
  | panic x => simp only; rw [h x (by simp [ho, Op.operands])]
  | unOp op t x => simp only; rw [h x (by simp [ho, Op.operands])]
  | convert src dst x => simp only; rw [h x (by simp [ho, Op.operands])]
  | makeFunc fn first caps =>
    cases fn with
    | func f =>
      simp only
      rw [hmap caps.toList fun x hx => h x (by rw [ho]; simp only [Op.operands]; simp; right; simpa using hx)]
    | _ => rfl
  | makeSlice t l c => simp only; rw [h l (by simp [ho, Op.operands]), h c (by simp [ho, Op.operands])]
  | slice t x lo hi mx =>
    cases mx with
    | some m => rfl
    | none =>
      simp only
      rw [h x (by simp [ho, Op.operands])]
      have h1 : lo.map r = lo.map r' := by
        cases lo with
        | none => rfl
        | some y => simp only [Option.map_some]; rw [h y (by simp [ho, Op.operands])]
      have h2 : hi.map r = hi.map r' := by
        cases hi with
        | none => rfl
        | some y => simp only [Option.map_some]; rw [h y (by simp [ho, Op.operands])]
      rw [h1, h2]
  | fieldAddr t x f => simp only; rw [h x (by simp [ho, Op.operands])]
  | field t x f => simp only; rw [h x (by simp [ho, Op.operands])]
  | indexAddr t x i => simp only; rw [h x (by simp [ho, Op.operands]), h i (by simp [ho, Op.operands])]
  | index t x i => simp only; rw [h x (by simp [ho, Op.operands]), h i (by simp [ho, Op.operands])]
  | extract x i => simp only; rw [h x (by simp [ho, Op.operands])]
  | call c =>
    obtain ⟨callee, args, ts⟩ := c
    have hargs : ∀ x ∈ args.toList, r x = r' x := fun x hx => h x (by rw [ho]; cases callee <;> simp only [Op.operands, Call.operands] <;> simp <;> (try right) <;> simpa using hx)
    cases callee with
    | value f =>
      simp only
      rw [h f (by rw [ho]; simp [Op.operands, Call.operands]), hmap args.toList hargs]
    | invoke q m => rfl
    | builtin b =>
      simp only
      have two : ∀ (f : V → V → Res), (match args.toList with | [x, y] => f (r x) (r y) | _ => none) = (match args.toList with | [x, y] => f (r' x) (r' y) | _ => none) := by
        intro f
        cases hl : args.toList with
        | nil => rfl
        | cons x l =>
          cases l with
          | nil => rfl
          | cons y l =>
            cases l with
            | nil => simp only; rw [hargs x (by rw [hl]; simp), hargs y (by rw [hl]; simp)]
            | cons z l => rfl
      cases b <;> simp only
      · -- append
        cases hl : args.toList with
        | nil => rfl
        | cons x l =>
          cases l with
          | nil => rfl
          | cons y l =>
            cases l with
            | nil => simp only; rw [hargs x (by rw [hl]; simp), hargs y (by rw [hl]; simp)]
            | cons z l => rfl
      · -- cap
        cases hl : args.toList with
        | nil => cases ts.toList with
          | nil => rfl
          | cons t ts => cases ts <;> rfl
        | cons x l =>
          cases l with
          | nil =>
            cases ts.toList with
            | nil => rfl
            | cons t ts =>
              cases ts with
              | nil => simp only; rw [hargs x (by rw [hl]; simp)]
              | cons u ts => rfl
          | cons y l => cases ts.toList with
            | nil => rfl
            | cons t ts => cases ts <;> rfl
      · -- len
        cases hl : args.toList with
        | nil => cases ts.toList with
          | nil => rfl
          | cons t ts => cases ts <;> rfl
        | cons x l =>
          cases l with
          | nil =>
            cases ts.toList with
            | nil => rfl
            | cons t ts =>
              cases ts with
              | nil => simp only; rw [hargs x (by rw [hl]; simp)]
              | cons u ts => rfl
          | cons y l => cases ts.toList with
            | nil => rfl
            | cons t ts => cases ts <;> rfl
      · exact two (minmaxV true)
      · exact two (minmaxV false)
  | _ => rfl
theorem opR_congr {E : Env} {fr fr' : List V} {bx : List (Nat × List V)} {o : Oper} (h : ∀ x ∈ o.op.operands.toList, evalO E fr x = evalO E fr' x) : opR E fr bx o = opR E fr' bx o := by
  unfold opR
  simp only
  have e : ∀ f : V → V, ∀ bx : List (Nat × List V), opX E.P (fun x => f (evalO E fr x)) bx o = opX E.P (fun x => f (evalO E fr' x)) bx o := fun f bx => opX_congr fun x hx => by rw [h x hx]
  have a : (o.op.operands.toList.any fun x => (evalO E fr x).isOld) = o.op.operands.toList.any fun x => (evalO E fr' x).isOld := by
    rw [Bool.eq_iff_iff, List.any_eq_true, List.any_eq_true]
    constructor
    · rintro ⟨x, hx, hq⟩; exact ⟨x, hx, by rw [← h x hx]; exact hq⟩
    · rintro ⟨x, hx, hq⟩; exact ⟨x, hx, by rw [h x hx]; exact hq⟩
  rw [a, e V.old0 [], e V.unOld bx, e (fun x => x) bx]
theorem evalO_slot {E : Env} {fr fr' : List V} {l : List Operand} (h : ∀ t ∈ tmpsOf l, slot fr t = slot fr' t) : ∀ x ∈ l, evalO E fr x = evalO E fr' x := by
  intro x hx
  cases x with
  | tmp t => exact h t (by unfold tmpsOf; rw [List.mem_filterMap]; exact ⟨_, hx, rfl⟩)
  | _ => rfl
section
variable {E : Env} {B : Own} {G0 : Known} {w0 : World}
theorem Inv.drew {s : St} {g : Gh} {a : Act} {w : World} (h : Inv E B G0 w0 s g a w) : Inv E B G0 w0 s g a { w with drawn := w.drawn + 1 } :=
  ⟨h.fr, h.df, h.gok, h.own, h.bxs, ⟨⟨h.bel.bel.os, h.bel.bel.tape, h.bel.bel.output, h.bel.bel.size, h.bel.bel.block⟩, h.bel.row⟩, h.hB, h.ext, h.glob, h.g1⟩
theorem step_chg {ops : List Oper} {bx : List (Nat × List V)} {s s' : St} {o : Oper} {d : Nat} (hd : o.dst = some d) (h : StepRel E ops (some bx) s o s') :
    ∃ c : Chg, c.d = d ∧ s' = c.app s ∧ ∀ S : St, wantV ops S o = wantV ops s o → opR E S.fr bx o = opR E s.fr bx o → S.noLabel d = true → S.noBox d = true → StepRel E ops (some bx) S o (c.app S) := by
  rcases h with ⟨hw, eff, ho, hbad, hr⟩ | ⟨hw, rfl⟩
  · simp only [Option.isSome_some, Bool.true_and] at hbad
    have fin : ∀ c : Chg, c.d = d → s' = c.app s → (∀ S : St, S.noLabel d = true → S.noBox d = true → EffRel E true S o.dst eff (c.app S)) → _ := fun c h1 h2 h3 =>
      (⟨c, h1, h2, fun S hw' ho' hl hb => .inl ⟨hw'.trans hw, eff, ho'.trans ho, by simpa using hbad, h3 S hl hb⟩⟩ : ∃ c : Chg, c.d = d ∧ s' = c.app s ∧ ∀ S : St, wantV ops S o = wantV ops s o → opR E S.fr bx o = opR E s.fr bx o → S.noLabel d = true → S.noBox d = true → StepRel E ops (some bx) S o (c.app S))
    rw [hd] at hr fin
    cases eff with
    | val v => exact fin ⟨d, v, none⟩ rfl hr fun S _ _ => rfl
    | newSl e sh xs => exact fin ⟨d, .sl e sh none xs, none⟩ rfl hr fun S _ _ => rfl
    | own e sh xs =>
      obtain ⟨k, hk, _, hlt, rfl⟩ := hr
      simp only [Option.some.injEq] at hk
      subst hk
      exact fin ⟨d, .sl e sh (some d) xs, none⟩ rfl rfl fun S hl _ => ⟨d, rfl, noLabel_any hl, hlt, rfl⟩
    | app L e sh xs => cases hbad
    | newBox e cs =>
      obtain ⟨k, hk, _, hcs, hlt, rfl⟩ := hr
      simp only [Option.some.injEq] at hk
      subst hk
      exact fin ⟨d, .box d 0, some cs⟩ rfl rfl fun S _ hb => ⟨d, rfl, hb, hcs, hlt, rfl⟩
    | put k off cs => cases hbad
    | call f args mb ml =>
      rcases hr with ⟨hbx, hr⟩ | ⟨h0, _⟩
      · rcases hr with ⟨k, r, hk, _, hlt, hc, rfl⟩ | ⟨r, hk, _⟩
        · simp only [Option.some.injEq] at hk
          subst hk
          exact fin ⟨d, r.relab d, none⟩ rfl rfl fun S hl _ => .inl ⟨hbx, .inl ⟨d, r, rfl, hl, hlt, hc, rfl⟩⟩
        · cases hk
      · cases h0
    | pan v => exact hr.elim
    | pick b x y =>
      cases b with
      | true => exact fin ⟨d, x, none⟩ rfl hr fun S _ _ => rfl
      | false => exact fin ⟨d, y, none⟩ rfl hr fun S _ _ => rfl
    | lput L e k ys => cases hbad
    | alts i vs =>
      obtain ⟨j, v, h1, h2, rfl⟩ := hr
      exact fin ⟨d, v, none⟩ rfl rfl fun S _ _ => ⟨j, v, h1, h2, rfl⟩
  · rw [hd]
    exact ⟨⟨d, .tup [], none⟩, rfl, rfl, fun S hw' _ _ _ => .inr ⟨hw'.trans hw, by rw [hd]; rfl⟩⟩
theorem trace_chgs {ops : List Oper} {bx : List (Nat × List V)} : ∀ (l : List Oper) (s s' : St), (∀ o ∈ l, ∃ d, o.dst = some d) → Trace E ops (some bx) l s s' →
    ∃ cs : List Chg, cs.length = l.length ∧ (∀ (i : Nat) o c, l[i]? = some o → cs[i]? = some c → o.dst = some c.d ∧
      ∃ si, Alike si (selSt (fun j => decide (j < i)) cs 0 s) ∧ si = selSt (fun j => decide (j < i)) cs 0 s ∧ ∀ S : St, wantV ops S o = wantV ops si o → opR E S.fr bx o = opR E si.fr bx o → S.noLabel c.d = true → S.noBox c.d = true → StepRel E ops (some bx) S o (c.app S)) ∧
      s' = selSt (fun _ => true) cs 0 s
  | [], s, s', _, h => by
    cases h
    exact ⟨[], rfl, fun i o c h => by simp at h, rfl⟩
  | o :: l, s, s', hd, h => by
    cases h with
    | cons hs ht =>
      rename_i s1
      obtain ⟨d, hod⟩ := hd o List.mem_cons_self
      obtain ⟨c, hcd, rfl, hstep⟩ := step_chg hod hs
      obtain ⟨cs, hlen, hcs, hfin⟩ := trace_chgs l _ s' (fun x hx => hd x (List.mem_cons_of_mem _ hx)) ht
      have shift : ∀ (sel : Nat → Bool) (sel' : Nat → Bool) (k : Nat), (∀ j, sel (j + 1) = sel' j) → ∀ (cs : List Chg) (k : Nat) (s : St), selSt sel cs (k + 1) s = selSt sel' cs k s := by
        intro sel sel' _ hsel cs
        induction cs with
        | nil => intro k s; rfl
        | cons c cs ih =>
          intro k s
          unfold selSt
          rw [hsel k, ih]
      refine ⟨c :: cs, by simp [hlen], ?_, ?_⟩
      · intro i o' c' ho' hc'
        cases i with
        | zero =>
          simp only [List.getElem?_cons_zero, Option.some.injEq] at ho' hc'
          subst ho'; subst hc'
          have e1 : selSt (fun j => decide (j < 0)) (c :: cs) 0 s = s := by
            have : ∀ (cs : List Chg) (k : Nat) (s : St), selSt (fun j => decide (j < 0)) cs k s = s := by
              intro cs
              induction cs with
              | nil => intro k s; rfl
              | cons c cs ih => intro k s; unfold selSt; rw [ih]; simp
            exact this _ _ _
          exact ⟨by rw [hod, hcd], s, by rw [e1]; exact .refl _, e1.symm, by rw [hcd]; exact hstep⟩
        | succ i =>
          simp only [List.getElem?_cons_succ] at ho' hc'
          obtain ⟨h1, si, h2, h3, h4⟩ := hcs i o' c' ho' hc'
          have e1 : selSt (fun j => decide (j < i + 1)) (c :: cs) 0 s = selSt (fun j => decide (j < i)) cs 0 (c.app s) := by
            rw [selSt]
            rw [if_pos (by simp)]
            exact shift _ _ 0 (fun j => by simp) cs 0 _
          exact ⟨h1, si, by rw [e1]; exact h2, by rw [e1]; exact h3, h4⟩
      · rw [hfin, selSt, if_pos rfl]
        exact (shift (fun _ => true) (fun _ => true) 0 (fun j => rfl) cs 0 _).symm
theorem nodup_inj {l : List Nat} (h : l.Nodup) {i j : Nat} (hi : i < l.length) (hj : j < l.length) (e : l[i] = l[j]) : i = j := by
  have hp := List.pairwise_iff_getElem.1 h
  rcases Nat.lt_trichotomy i j with h1 | h1 | h1
  · exact absurd e (hp i j hi hj h1)
  · exact h1
  · exact absurd e.symm (hp j i hj hi h1)
theorem zip_all {α : Type} {l : List α} {p : α × Nat → Bool} (h : l.zipIdx.all p = true) : ∀ (i : Nat) (x : α), l[i]? = some x → p (x, i) = true := by
  intro i x hx
  rw [List.all_eq_true] at h
  exact h (x, i) (List.mem_zipIdx_iff_getElem?.2 hx)
def Closed (ops : List Oper) (sel : Nat → Bool) : Prop := ∀ (j : Nat) o, ops[j]? = some o → sel j = true → ∀ e ∈ o.after, Region.binds .any e = true → sel e.on = true
theorem waits_closed {ops : List Oper} {sel : Nat → Bool} (hc : Closed ops sel) : ∀ (n j i : Nat), waits ops n j i = true → sel j = true → sel i = true
  | 0, _, _, h, _ => by cases h
  | n + 1, j, i, h, hj => by
    unfold waits at h
    split at h
    · rename_i o ho
      rw [List.any_eq_true] at h
      obtain ⟨e, he, h⟩ := h
      rw [Bool.and_eq_true, Bool.or_eq_true, beq_iff_eq] at h
      have h1 := hc j o ho hj e (by simpa using he) h.1
      rcases h.2 with h2 | h2
      · rw [← h2]; exact h1
      · exact waits_closed hc n e.on i h2 h1
    · cases h
theorem selSt_bx_mem (sel : Nat → Bool) : ∀ (l : List Chg) (k : Nat) (s : St) (p : Nat × List V), p ∈ (selSt sel l k s).bx → p ∈ s.bx ∨ ∃ (j : Nat) (c : Chg) (cs : List V), l[j]? = some c ∧ sel (k + j) = true ∧ c.bx = some cs ∧ p = (c.d, cs)
  | [], k, s, p, h => .inl h
  | c :: l, k, s, p, h => by
    unfold selSt at h
    rcases selSt_bx_mem sel l (k + 1) _ p h with h | ⟨j, c', cs, h1, h2, h3, h4⟩
    · split at h
      · rename_i hk
        unfold Chg.app at h
        cases hb : c.bx with
        | none => rw [hb] at h; exact .inl h
        | some cs =>
          rw [hb] at h
          simp only [List.mem_cons] at h
          rcases h with rfl | h
          · exact .inr ⟨0, c, cs, rfl, by simpa using hk, hb, rfl⟩
          · exact .inl h
      · exact .inl h
    · exact .inr ⟨j + 1, c', cs, by simpa using h1, by rw [show k + (j + 1) = k + 1 + j by omega]; exact h2, h3, h4⟩
theorem selSt_bx_all (l : List Chg) : ∀ (k : Nat) (s : St), (∀ p ∈ s.bx, p ∈ (selSt (fun _ => true) l k s).bx) ∧ ∀ (j : Nat) (c : Chg) (cs : List V), l[j]? = some c → c.bx = some cs → (c.d, cs) ∈ (selSt (fun _ => true) l k s).bx := by
  induction l with
  | nil => intro k s; exact ⟨fun p h => h, fun j c cs h => by simp at h⟩
  | cons c l ih =>
    intro k s
    unfold selSt
    rw [if_pos rfl]
    obtain ⟨h1, h2⟩ := ih (k + 1) (c.app s)
    refine ⟨fun p hp => h1 p ?_, fun j c' cs hj hc => ?_⟩
    · unfold Chg.app
      cases c.bx with
      | none => exact hp
      | some cs => exact List.mem_cons_of_mem _ hp
    · cases j with
      | zero =>
        simp only [List.getElem?_cons_zero, Option.some.injEq] at hj
        subst hj
        refine h1 _ ?_
        unfold Chg.app
        rw [hc]
        exact List.mem_cons_self
      | succ j => exact h2 j c' cs (by simpa using hj) hc
theorem bnot_false {b : Bool} (h : b = false) : bnot b = true := by subst h; rfl
theorem fresh_sel {ops : List Oper} {s0 : St} {cs : List Chg} {sel : Nat → Bool} (hlen : cs.length = ops.length) (hcs : ∀ (i : Nat) o c, ops[i]? = some o → cs[i]? = some c → o.dst = some c.d) (hn : (cs.map (·.d)).Nodup) (hfr : ∀ c ∈ cs, c.d < s0.fr.length)
    (hst : drawStart ops s0 = true) (hen : drawEnd ops (selSt (fun _ => true) cs 0 s0) = true) (hcl : Closed ops sel) {i : Nat} {c : Chg} (hi : cs[i]? = some c) (hsel : sel i = false) :
    (selSt sel cs 0 s0).noLabel c.d = true ∧ (selSt sel cs 0 s0).noBox c.d = true := by
  have hiL : i < ops.length := by rw [← hlen]; exact (List.getElem?_eq_some_iff.1 hi).1
  have hoi := List.getElem?_eq_getElem hiL
  have hdi := hcs i _ c hoi hi
  unfold drawStart at hst
  rw [List.all_eq_true] at hst
  have hst := hst _ (List.getElem_mem hiL)
  rw [hdi] at hst
  simp only [Bool.and_eq_true] at hst
  obtain ⟨hsl, hsb⟩ := hst
  unfold drawEnd at hen
  simp only at hen
  have hen := zip_all hen i _ hoi
  simp only [hdi, Bool.and_eq_true] at hen
  obtain ⟨hen1, hen2⟩ := hen
  have hslot : ∀ t, t < s0.fr.length → (slot (selSt sel cs 0 s0).fr t).hasLabel c.d = false ∧ (slot (selSt sel cs 0 s0).fr t).hasBox c.d = false := by
    intro t ht
    have h0 : (slot s0.fr t).hasLabel c.d = false ∧ (slot s0.fr t).hasBox c.d = false := by
      have hm : slot s0.fr t ∈ s0.fr := by
        unfold slot
        rw [List.getD_eq_getElem?_getD, List.getElem?_eq_getElem ht]
        exact List.getElem_mem ht
      exact ⟨noLabel_fr hsl _ hm, noBox_fr hsb _ hm⟩
    by_cases hex : ∃ cj ∈ cs, cj.d = t
    · obtain ⟨cj, hm, rfl⟩ := hex
      obtain ⟨j, hj⟩ := List.getElem?_of_mem hm
      have hjL : j < ops.length := by rw [← hlen]; exact (List.getElem?_eq_some_iff.1 hj).1
      have hoj := List.getElem?_eq_getElem hjL
      rw [selSt_slot sel j cs 0 s0 cj (Nat.zero_le _) (by simpa using hj) hn ht]
      split
      · rename_i hjs
        have h2 := zip_all hen1 j _ hoj
        simp only [hcs j _ cj hoj hj] at h2
        rw [selSt_slot (fun _ => true) j cs 0 s0 cj (Nat.zero_le _) (by simpa using hj) hn ht, if_pos rfl] at h2
        simp only [Bool.or_eq_true, Bool.and_eq_true, beq_iff_eq] at h2
        rcases h2 with (h2 | h2) | h2
        · subst h2; rw [hsel] at hjs; cases hjs
        · exact ⟨bnot_true h2.1, bnot_true h2.2⟩
        · have := waits_closed hcl _ _ _ h2 hjs
          rw [hsel] at this; cases this
      · exact h0
    · rw [selSt_other sel t cs 0 s0 fun cj hm e => hex ⟨cj, hm, e⟩]
      exact h0
  have hfrall : ∀ x ∈ (selSt sel cs 0 s0).fr, x.hasLabel c.d = false ∧ x.hasBox c.d = false := by
    intro x hx
    obtain ⟨t, ht, rfl⟩ := List.getElem_of_mem hx
    have h := hslot t (by rw [selSt_len] at ht; exact ht)
    unfold slot at h
    rw [List.getD_eq_getElem?_getD, List.getElem?_eq_getElem ht] at h
    exact h
  have hbx : ∀ p ∈ (selSt sel cs 0 s0).bx, p.1 ≠ c.d ∧ ∀ x ∈ p.2, x.hasLabel c.d = false ∧ x.hasBox c.d = false := by
    intro p hp
    rcases selSt_bx_mem sel cs 0 s0 p hp with hp | ⟨j, cj, ds, hj, hjs, hjb, rfl⟩
    · unfold St.noLabel at hsl
      unfold St.noBox at hsb
      simp only [Bool.and_eq_true, List.all_eq_true] at hsl hsb
      have h1 := hsl.2 p hp
      have h2 := hsb.2 p hp
      refine ⟨fun e => ?_, fun x hx => ⟨bnot_true (h1 x hx), bnot_true (h2.2 x hx)⟩⟩
      have := bnot_true h2.1
      rw [beq_eq_false_iff_ne] at this
      exact this e
    · rw [Nat.zero_add] at hjs
      have hne : cj.d ≠ c.d := by
        intro e
        have : i = j := by
          have hil : i < (cs.map (·.d)).length := by rw [List.length_map]; exact (List.getElem?_eq_some_iff.1 hi).1
          have hjl : j < (cs.map (·.d)).length := by rw [List.length_map]; exact (List.getElem?_eq_some_iff.1 hj).1
          refine nodup_inj hn hil hjl ?_
          simp only [List.getElem_map]
          rw [(List.getElem?_eq_some_iff.1 hi).2, (List.getElem?_eq_some_iff.1 hj).2, e]
        subst this
        rw [hsel] at hjs; cases hjs
      refine ⟨hne, ?_⟩
      have hm := (selSt_bx_all cs 0 s0).2 j cj ds hj hjb
      rw [List.all_eq_true] at hen2
      have h2 := hen2 _ hm
      simp only [Bool.or_eq_true, List.all_eq_true, List.any_eq_true, Bool.and_eq_true, beq_iff_eq] at h2
      rcases h2 with h2 | ⟨⟨oj', j'⟩, hm', hd', hw⟩
      · exact fun x hx => ⟨bnot_true (h2 x hx).1, bnot_true (h2 x hx).2⟩
      · exfalso
        have hoj' := List.mem_zipIdx_iff_getElem?.1 hm'
        simp only at hoj' hd' hw
        have hj'L : j' < ops.length := (List.getElem?_eq_some_iff.1 hoj').1
        have hj'C : j' < cs.length := by omega
        have hcj' := hcs j' oj' _ hoj' (List.getElem?_eq_getElem hj'C)
        rw [hd'] at hcj'
        simp only [Option.some.injEq] at hcj'
        have : j = j' := by
          have hjl : j < (cs.map (·.d)).length := by rw [List.length_map]; exact (List.getElem?_eq_some_iff.1 hj).1
          have hj'l : j' < (cs.map (·.d)).length := by rw [List.length_map]; exact hj'C
          refine nodup_inj hn hjl hj'l ?_
          simp only [List.getElem_map]
          rw [(List.getElem?_eq_some_iff.1 hj).2, hcj']
        subst this
        have := waits_closed hcl _ _ _ hw hjs
        rw [hsel] at this; cases this
  unfold St.noLabel St.noBox
  simp only [Bool.and_eq_true, List.all_eq_true]
  exact ⟨⟨fun x hx => bnot_false (hfrall x hx).1, fun p hp x hx => bnot_false ((hbx p hp).2 x hx).1⟩, ⟨fun x hx => bnot_false (hfrall x hx).2, fun p hp => ⟨bnot_false (by rw [beq_eq_false_iff_ne]; exact (hbx p hp).1), fun x hx => bnot_false ((hbx p hp).2 x hx).2⟩⟩⟩
end
end Nt.Ev

namespace Nt.Ev
open Go Go.RowKit
section
variable {P : Program} {ops : Array Oper} {Q : Exit → Act → World → Prop}
theorem sub_size (p : List Nat) : (subOps ops p).size = p.length := by unfold subOps; simp
theorem sub_get {p : List Nat} {k : Nat} (hk : k < p.length) : (subOps ops p)[k]? = some (subO p (ops.getD p[k] default)) := by
  unfold subOps
  simp [hk]
theorem opsD_some {i : Nat} {o : Oper} (h : ops[i]? = some o) : ops.getD i default = o := by
  rw [Array.getD_eq_getD_getElem?, h]; rfl
theorem sub_after {p : List Nat} {o : Oper} {e : Edge} : e ∈ (subO p o).after ↔ ∃ e0 ∈ o.after, e0.on ∈ p ∧ e = { e0 with on := p.idxOf e0.on } := by
  unfold subO
  constructor
  · intro h
    simp only [List.mem_toArray, List.mem_map, List.mem_filter, Array.mem_toList_iff] at h
    obtain ⟨e0, ⟨h1, h2⟩, rfl⟩ := h
    exact ⟨e0, h1, by simpa using h2, rfl⟩
  · rintro ⟨e0, h1, h2, rfl⟩
    simp only [List.mem_toArray, List.mem_map, List.mem_filter, Array.mem_toList_iff]
    exact ⟨e0, ⟨h1, by simpa using h2⟩, rfl⟩
theorem sub_binds (md : Region.Mode) (e : Edge) (n : Nat) : Region.binds md { e with on := n } = Region.binds md e := rfl
theorem sub_wp (p : List Nat) (o : Oper) (a : Act) (w : World) (K : Act → World → Prop) : (subO p o).wp P a w K Q = o.wp P a w K Q := rfl
theorem sub_asks (p : List Nat) (o : Oper) (a : Act) (w : World) : (subO p o).asks P a w = o.asks P a w := rfl
theorem idx_get {p : List Nat} {i : Nat} (h : i ∈ p) : ∃ hk : p.idxOf i < p.length, p[p.idxOf i] = i := ⟨List.idxOf_lt_length_of_mem h, List.getElem_idxOf _⟩
theorem subOk_spec {p : List Nat} (h : subOk ops p = true) {i : Nat} {o : Oper} (ho : ops[i]? = some o) : (∀ j b, o.guard = some (j, b) → j ∈ p) ∧ ∀ e ∈ o.after, e.on < ops.size := by
  unfold subOk at h
  rw [List.all_eq_true] at h
  have h1 := h o (by rw [Array.mem_toList_iff]; exact Array.mem_of_getElem? ho)
  rw [Bool.and_eq_true, List.all_eq_true] at h1
  refine ⟨fun j b hg => ?_, fun e he => ?_⟩
  · have := h1.1
    rw [hg] at this
    simpa using this
  · exact nb_lt (h1.2 e (by simpa using he))
theorem sub_any {p : List Nat} (hnd : p.Nodup) (hlt : ∀ i ∈ p, i < ops.size) (hok : subOk ops p = true) : ∀ (fuel : Nat) (listed listed' : Array Bool) (a : Act) (w : World), listed.size = ops.size → listed'.size = p.length →
    (∀ i, i < ops.size → i ∉ p → listed.getD i false = true) → (∀ (k : Nat) (hk : k < p.length) (d : Bool), listed.getD p[k] d = listed'.getD k d) → wpAny P .any (subOps ops p) Q fuel listed' a w → wpAny P .any ops Q fuel listed a w := by
  have keyR : ∀ (listed listed' : Array Bool), listed.size = ops.size → listed'.size = p.length → (∀ i, i < ops.size → i ∉ p → listed.getD i false = true) → (∀ (k : Nat) (hk : k < p.length) (d : Bool), listed.getD p[k] d = listed'.getD k d) →
      (∀ i, i ∈ Region.ready .any ops listed → i ∈ p ∧ p.idxOf i ∈ Region.ready .any (subOps ops p) listed') ∧ (Region.ready .any ops listed = [] → Region.ready .any (subOps ops p) listed' = []) := by
    intro listed listed' h1 h2 h3 h4
    refine ⟨fun i hi => ?_, fun hr => ?_⟩
    · obtain ⟨hu, o, ho, hal⟩ := mem_ready.1 hi
      have hil : i < ops.size := (Array.getElem?_eq_some_iff.1 ho).1
      have hip : i ∈ p := by
        refine Classical.byContradiction fun hn => ?_
        have := h3 i hil hn
        have h5 : i < listed.size := by omega
        simp only [Array.getD_eq_getD_getElem?, Array.getElem?_eq_getElem h5, Option.getD_some] at hu this
        rw [hu] at this; cases this
      obtain ⟨hk, hpk⟩ := idx_get hip
      refine ⟨hip, mem_ready.2 ⟨?_, _, sub_get hk, fun e he hb => ?_⟩⟩
      · rw [← h4 _ hk, hpk]; exact hu
      · rw [hpk, opsD_some ho] at he
        obtain ⟨e0, he0, hep, rfl⟩ := sub_after.1 he
        obtain ⟨hk2, hpk2⟩ := idx_get hep
        show listed'.getD (p.idxOf e0.on) false = true
        rw [← h4 _ hk2, hpk2]
        exact hal e0 he0 (by rwa [sub_binds] at hb)
    · refine List.eq_nil_iff_forall_not_mem.2 fun k hk => ?_
      obtain ⟨hu, o', ho', hal⟩ := mem_ready.1 hk
      have hkl : k < p.length := by have := (Array.getElem?_eq_some_iff.1 ho').1; rwa [sub_size] at this
      rw [sub_get hkl] at ho'
      simp only [Option.some.injEq] at ho'
      subst ho'
      have hil : p[k] < ops.size := hlt _ (List.getElem_mem hkl)
      have ho : ops[p[k]]? = some (ops[p[k]]'hil) := by simp [hil]
      have : p[k] ∈ Region.ready .any ops listed := by
        refine mem_ready.2 ⟨by rw [h4 k hkl]; exact hu, _, ho, fun e he hb => ?_⟩
        by_cases hep : e.on ∈ p
        · obtain ⟨hk2, hpk2⟩ := idx_get hep
          have := hal { e with on := p.idxOf e.on } (by rw [opsD_some ho]; exact sub_after.2 ⟨e, he, hep, rfl⟩) hb
          have h5 := h4 _ hk2 false
          rw [hpk2] at h5
          rw [h5]; exact this
        · exact h3 _ ((subOk_spec hok ho).2 e he) hep
      rw [hr] at this
      cases this
  have keyO : ∀ (i : Nat) (K K' : Act → World → Prop) (a : Act) (w : World), i ∈ p → (∀ a w, K' a w → K a w) → wpOp P (subOps ops p) Q (p.idxOf i) K' a w → wpOp P ops Q i K a w := by
    intro i K K' a w hip hK h
    obtain ⟨hk, hpk⟩ := idx_get hip
    have hil := hlt i hip
    have ho : ops[i]? = some (ops[i]'hil) := by simp [hil]
    unfold wpOp at h ⊢
    rw [sub_get hk, hpk, opsD_some ho] at h
    rw [ho]
    simp only at h ⊢
    have hw : Region.wanted (subO p (ops[i]'hil)) (yielded (subOps ops p) a.tmps) = Region.wanted (ops[i]'hil) (yielded ops a.tmps) := by
      unfold Region.wanted
      have hg : (subO p (ops[i]'hil)).guard = (ops[i]'hil).guard.map fun g => (p.idxOf g.1, g.2) := rfl
      rw [hg]
      cases hgq : (ops[i]'hil).guard with
      | none => rfl
      | some g =>
        obtain ⟨j, b⟩ := g
        have hjp := (subOk_spec hok ho).1 j b hgq
        obtain ⟨hk2, hpk2⟩ := idx_get hjp
        have hjl := hlt j hjp
        have hoj : ops[j]? = some (ops[j]'hjl) := by simp [hjl]
        have : yielded (subOps ops p) a.tmps (p.idxOf j) = yielded ops a.tmps j := by
          unfold yielded
          rw [sub_get hk2, hpk2, opsD_some hoj, hoj]
          rfl
        simp only [Option.map_some, this]
    rw [hw] at h
    split at h
    · rename_i hww
      rw [if_pos hww]
      rw [sub_wp, sub_asks] at h
      exact h.imp (Oper.wp_mono hK) id
    · rename_i hww
      rw [if_neg hww]
      exact hK _ _ h
  intro fuel
  induction fuel with
  | zero =>
    intro listed listed' a w h1 h2 h3 h4 h
    refine ⟨?_, h.2⟩
    refine List.eq_nil_iff_forall_not_mem.2 fun i hi => ?_
    have := ((keyR listed listed' h1 h2 h3 h4).1 i hi).2
    rw [h.1] at this
    cases this
  | succ fuel ih =>
    intro listed listed' a w h1 h2 h3 h4 h
    obtain ⟨r1, r2⟩ := keyR listed listed' h1 h2 h3 h4
    refine ⟨fun hr => h.1 (r2 hr), fun i hi => ?_⟩
    obtain ⟨hip, hk⟩ := r1 i hi
    obtain ⟨hkl, hpk⟩ := idx_get hip
    refine keyO i _ _ a w hip (fun a w hq => ?_) (h.2 _ hk)
    refine ih _ _ a w (by simpa using h1) (by simpa using h2) (fun j hj hjp => ?_) (fun k hk' d => ?_) hq
    · have hne : i ≠ j := fun e => hjp (e ▸ hip)
      rw [getD_set_ne false hne]
      exact h3 j hj hjp
    · by_cases e : p[k] = i
      · have hki : p.idxOf i = k := by
          refine Classical.byContradiction fun hne => ?_
          have h7 : p[p.idxOf i] = p[k] := by rw [hpk, e]
          rcases Nat.lt_or_gt_of_ne hne with h8 | h8
          · exact List.pairwise_iff_getElem.1 hnd _ _ hkl hk' h8 h7
          · exact List.pairwise_iff_getElem.1 hnd _ _ hk' hkl h8 h7.symm
        rw [e, hki]
        have hil := hlt i hip
        have h5 : i < listed.size := by omega
        have h6 : k < listed'.size := by omega
        simp [h5, h6]
      · have hki : p.idxOf i ≠ k := fun e2 => e (by subst e2; exact hpk)
        rw [getD_set_ne d (fun q => e q.symm), getD_set_ne d hki]
        exact h4 k hk' d
def Still0 {α : Type} (P : Program) (m : Sem α) : Prop := ∀ w v w', m.run P w = .ok v w' → w' = w ∧ ∀ w2, m.run P w2 = .ok v w2
theorem still_pure {α : Type} (v : α) : Still0 P (pure v : Sem α) := by
  intro w v' w' h
  simp only [Sem.run_pure, Result.ok.injEq] at h
  obtain ⟨rfl, rfl⟩ := h
  exact ⟨rfl, fun w2 => by simp only [Sem.run_pure]⟩
theorem still_bind {α β : Type} {m : Sem α} {k : α → Sem β} (h1 : Still0 P m) (h2 : ∀ v, Still0 P (k v)) : Still0 P (m >>= k) := by
  intro w v w' h
  rw [Sem.run_bind] at h
  cases hm : m.run P w with
  | ok u w1 =>
    rw [hm, Result.andThen_ok] at h
    obtain ⟨rfl, h3⟩ := h1 w u w1 hm
    obtain ⟨rfl, h4⟩ := h2 u w1 v w' h
    exact ⟨rfl, fun w2 => by rw [Sem.run_bind, h3 w2, Result.andThen_ok]; exact h4 w2⟩
  | halt x w1 => rw [hm] at h; cases h
theorem still_never {α : Type} {m : Sem α} (h : ∀ w v w', m.run P w ≠ .ok v w') : Still0 P m := fun w v w' e => absurd e (h w v w')
theorem still_typeInfo (t : TypeId) : Still0 P (typeInfo t) := by
  intro w v w' h
  cases hu : P.info? t with
  | some d =>
    have e : ∀ w, (typeInfo t).run P w = .ok d w := fun w => by simp [typeInfo, hu]
    rw [e] at h
    simp only [Result.ok.injEq] at h
    obtain ⟨rfl, rfl⟩ := h
    exact ⟨rfl, e⟩
  | none =>
    exfalso
    unfold typeInfo at h
    simp [hu] at h
theorem still_sizeOf (t : TypeId) : Still0 P (Go.sizeOf t) := by
  unfold Go.sizeOf
  exact still_bind (still_typeInfo t) fun v => still_pure _
theorem still_asIntOf (x : Value) : Still0 P (asIntOf x) := by
  unfold asIntOf
  split
  · exact still_pure _
  · exact still_never fun w v w' h => by simp [unsupported] at h
  · exact still_never fun w v w' h => by simp [stuck] at h
theorem never_bind {α β : Type} {m : Sem α} {k : α → Sem β} (h : ∀ u w v w', (k u).run P w ≠ .ok v w') : ∀ w v w', (m >>= k).run P w ≠ .ok v w' := by
  intro w v w' e
  rw [Sem.run_bind] at e
  cases hm : m.run P w with
  | ok u w1 => rw [hm, Result.andThen_ok] at e; exact h u w1 v w' e
  | halt x w1 => rw [hm] at e; cases e
theorem never_bounds {α : Type} (k : IntKind) (x y : Int) (c : BoundsCode) (w : World) (v : α) (w' : World) : (boundsPanic k x y c : Sem α).run P w ≠ .ok v w' := by
  have h0 : ∀ (s : Bool) (w : World) (v : α) (w' : World), (runtimePanic (.bounds (IntKind.i64.wrap x) y s c) : Sem α).run P w ≠ .ok v w' := fun s w v w' => by
    unfold runtimePanic
    exact never_bind (fun p w v w' h => by simp [goPanic] at h) w v w'
  unfold boundsPanic
  simp only
  split
  · exact never_bind (fun u w v w' => h0 u w v w') w v w'
  · exact never_bind (fun u w v w' => h0 u w v w') w v w'
theorem still_bound (x : Value) (y : Nat) (c : BoundsCode) : Still0 P (Instr.sliceBound x y c) := by
  unfold Instr.sliceBound
  refine still_bind (still_asIntOf x) fun v => ?_
  obtain ⟨k, i⟩ := v
  simp only
  split
  · exact still_pure _
  · exact still_never (never_bounds k i y c)
theorem still_bounds (b : Bool) (len cap : Nat) (lo hi : Option Value) : Still0 P (Instr.sliceBounds b len cap lo hi none) := by
  unfold Instr.sliceBounds
  refine still_bind (still_pure _) fun m => ?_
  have hL : ∀ h : Nat, Still0 P (match lo with
      | some v => do let l ← Instr.sliceBound v h (if (none : Option Value).isSome = true then BoundsCode.slice3C else BoundsCode.sliceB); pure (l, h, m)
      | none => do let l ← pure 0; pure (l, h, m) : Sem (Nat × Nat × Nat)) := fun h => by
    cases lo with
    | none => exact still_bind (still_pure _) fun l => still_pure _
    | some v => exact still_bind (still_bound _ _ _) fun l => still_pure _
  cases hi with
  | none => exact still_bind (still_pure _) fun h => hL h
  | some v => exact still_bind (still_bound _ _ _) fun h => hL h
theorem still_slice {t e : TypeId} (hu : P.underlying t = some (.slice e)) (x : Value) (lo hi : Option Value) : Still0 P (Instr.sliceAt t x lo hi none) := by
  have e1 : ∀ w, (Instr.sliceAt t x lo hi none).run P w = (Instr.slice t x lo hi none).run P w := fun w => by simp [Instr.sliceAt, run_underlying hu]
  have e2 : Still0 P (Instr.slice t x lo hi none) := by
    unfold Instr.slice
    intro w v w' h
    simp only [Sem.run_bind, run_underlying hu, Result.andThen_ok] at h ⊢
    split at h
    · exact nomatch ‹TypeDesc.slice e = TypeDesc.string›
    · rename_i elem a len cap he
      have h5 : Still0 P (do let (l, h, m) ← Instr.sliceBounds true len cap lo hi none; let size ← Go.sizeOf elem; pure (Value.slice (if m = l then a else a.map (·.add (l * size))) (h - l) (m - l))) :=
        still_bind (still_bounds _ _ _ _ _) fun v => still_bind (still_sizeOf _) fun s => still_pure _
      exact h5 w v w' h
    · exact nomatch ‹TypeDesc.slice e = TypeDesc.pointer _›
    · simp [stuck] at h
  intro w v w' h
  rw [e1] at h
  obtain ⟨h1, h2⟩ := e2 w v w' h
  exact ⟨h1, fun w2 => by rw [e1]; exact h2 w2⟩
theorem still_sure (x : Value) : Still0 P (Instr.sureAddr x) := by
  unfold Instr.sureAddr
  split
  · exact still_pure _
  · exact still_never fun w v w' h => by simp [stuck] at h
theorem still_field {t : TypeId} {f : Nat} (hf : fldNZ P t f = true) (x : Value) : Still0 P (Instr.fieldAt t x f) := by
  unfold fldNZ at hf
  split at hf
  · rename_i fs hu
    split at hf
    · rename_i fd hfd
      split at hf
      · rename_i i hi
        have hne : i.size ≠ 0 := by simpa using hf
        have e : ∀ (a : Addr) w, (fieldPlace a fd).run P w = .ok (a.add fd.offset) w := fun a w => by
          simp [fieldPlace, Go.sizeOf, typeInfo, hi, hne]
        have h5 : Still0 P (do let a ← Instr.sureAddr x; pure (Value.pointer (some (← fieldPlace a fd)))) := by
          refine still_bind (still_sure x) fun a => still_bind ?_ fun b => still_pure _
          intro w v w' h
          rw [e a w] at h
          simp only [Result.ok.injEq] at h
          obtain ⟨rfl, rfl⟩ := h
          exact ⟨rfl, fun w2 => e a w2⟩
        intro w v w' h
        have e2 : ∀ w, (Instr.fieldAt t x f).run P w = (do let a ← Instr.sureAddr x; pure (Value.pointer (some (← fieldPlace a fd))) : Sem Value).run P w := fun w => by
          unfold Instr.fieldAt
          simp only [Sem.run_bind, run_underlying hu, Result.andThen_ok, hfd]
        rw [e2] at h
        obtain ⟨h1, h2⟩ := h5 w v w' h
        exact ⟨h1, fun w2 => by rw [e2]; exact h2 w2⟩
      · cases hf
    · cases hf
  · cases hf
theorem hoist_still {o : Oper} (h : hoistOp P o = true) {ρ : Operand → Value} {w w' : World} {u : Value} (hr : (execOp ρ o).run P w = .ok (.value u) w') : ∀ w2, (execOp ρ o).run P w2 = .ok (.value u) w2 := by
  unfold hoistOp at h
  rw [Bool.and_eq_true, Bool.and_eq_true] at h
  have h1 := h.1.1
  have hs : Still0 P (execOp ρ o) := by
    split at h1
    · rename_i x hx
      have : execOp ρ o = pure (.value (ρ x)) := by simp only [execOp, hx]
      rw [this]; exact still_pure _
    · rename_i t x lo hi hx
      have : execOp ρ o = (do pure (.value (← Instr.sliceAt t (ρ x) (lo.map ρ) (hi.map ρ) none))) := by simp only [execOp, hx, Option.map_none]
      rw [this]
      unfold isSlT at h1
      split at h1
      · rename_i e hu
        exact still_bind (still_slice hu _ _ _) fun v => still_pure _
      · cases h1
    · rename_i fn first caps hx
      have : execOp ρ o = (do pure (.value (← Instr.makeFunc fn (first.map ρ) (caps.map ρ)))) := by simp only [execOp, hx]
      rw [this]
      exact still_bind (by unfold Instr.makeFunc; exact still_pure _) fun v => still_pure _
    · rename_i t x f hx
      have : execOp ρ o = (do pure (.value (← Instr.fieldAt t (ρ x) f))) := by simp only [execOp, hx]
      rw [this]
      exact still_bind (still_field h1 _) fun v => still_pure _
    · cases h1
  exact (hs w _ w' hr).2
end
end Nt.Ev

namespace Nt.Ev
open Go Go.RowKit
section
variable {E : Env} {B : Own} {G0 : Known} {w0 : World}
theorem drawOk_spec {n : Nat} {ops : List Oper} (h : drawOk n ops = true) : ∀ (i : Nat) o, ops[i]? = some o → (∃ d, o.dst = some d ∧ d < n) ∧ (∀ (j : Nat) o', ops[j]? = some o' → i ≠ j → o.dst ≠ o'.dst) ∧ (∀ e ∈ o.after.toList, Region.binds .any e = true → e.on < i) ∧
    (∀ t ∈ readsO o, ∀ (j : Nat) o', ops[j]? = some o' → o'.dst = some t → j < i ∧ ∃ e ∈ o.after.toList, Region.binds .any e = true ∧ e.on = j) ∧ (∀ j want, o.guard = some (j, want) → j < i ∧ ∃ e ∈ o.after.toList, Region.binds .any e = true ∧ e.on = j) := by
  intro i o ho
  unfold drawOk at h
  simp only at h
  have h := zip_all h i o ho
  simp only [Bool.and_eq_true] at h
  obtain ⟨⟨⟨⟨h1, h2⟩, h3⟩, h4⟩, h5⟩ := h
  refine ⟨?_, fun j o' hj hne => ?_, fun e he hb => ?_, fun t ht j o' hj hd => ?_, fun j want hg => ?_⟩
  · split at h1
    · rename_i d hd; exact ⟨d, hd, by simpa [Nat.blt_eq] using h1⟩
    · cases h1
  · have := zip_all h2 j o' hj
    simp only [Bool.or_eq_true, beq_iff_eq, bne_iff_ne, ne_eq] at this
    exact this.resolve_left hne
  · rw [List.all_eq_true] at h3
    have := h3 e he
    rw [hb] at this
    simpa [Nat.blt_eq] using this
  · rw [List.all_eq_true] at h4
    have := zip_all (h4 t ht) j o' hj
    simp only [Bool.or_eq_true, bne_iff_ne, ne_eq, Bool.and_eq_true, List.any_eq_true, beq_iff_eq, Nat.blt_eq] at this
    rcases this with h | ⟨h6, e, he, h7, h8⟩
    · exact absurd hd h
    · exact ⟨h6, e, he, h7, h8⟩
  · rw [hg] at h5
    simp only [Bool.and_eq_true, List.any_eq_true, beq_iff_eq, Nat.blt_eq] at h5
    obtain ⟨h6, e, he, h7, h8⟩ := h5
    exact ⟨h6, e, he, h7, h8⟩
theorem wantV_congr {ops : List Oper} {s s' : St} {o : Oper} (h : ∀ j want oj d, o.guard = some (j, want) → ops[j]? = some oj → oj.dst = some d → slot s.fr d = slot s'.fr d) : wantV ops s o = wantV ops s' o := by
  unfold wantV
  split
  · rfl
  · rename_i j want hg
    split
    · rfl
    · rename_i oj hoj
      split
      · rfl
      · rename_i d hd
        rw [h j want oj d hg hoj hd]
theorem take_get {l : List Oper} {m i : Nat} {o : Oper} (h : (l.take m)[i]? = some o) : l[i]? = some o ∧ i < m := by
  rw [List.getElem?_take] at h
  split at h
  · exact ⟨h, by assumption⟩
  · cases h
theorem get_take {l : List Oper} {m i : Nat} {o : Oper} (h : l[i]? = some o) (hi : i < m) : (l.take m)[i]? = some o := by
  rw [List.getElem?_take, if_pos hi]; exact h
theorem addN_mem : ∀ (m l : List Nat) (x : Nat), x ∈ addN l m → x ∈ l ∨ x ∈ m
  | [], l, x, h => .inl h
  | a :: m, l, x, h => by
    unfold addN at h
    cases hc : l.contains a with
    | true => rw [hc, cond_true] at h; exact (addN_mem m l x h).imp id (List.mem_cons_of_mem _)
    | false =>
      rw [hc, cond_false] at h
      rcases addN_mem m _ x h with h | h
      · rcases List.mem_cons.1 h with rfl | h
        · exact .inr List.mem_cons_self
        · exact .inl h
      · exact .inr (List.mem_cons_of_mem _ h)
theorem bindsOf_mem {o : Oper} {x : Nat} (h : x ∈ bindsOf o) : ∃ e ∈ o.after.toList, Region.binds .any e = true ∧ e.on = x := by
  unfold bindsOf at h
  obtain ⟨e, he, rfl⟩ := List.mem_map.1 h
  rw [List.mem_filter] at he
  exact ⟨e, he.1, he.2, rfl⟩
theorem cond_some' {c b : Bool} (h : (bif c then b else false) = true) : c = true ∧ b = true := by cases c <;> first | exact ⟨rfl, h⟩ | cases h
theorem forceN_eq : ∀ (l : List Nat) (k : List Nat → Bool), forceN l k = k l
  | [], _ => rfl
  | a :: l, k => by unfold forceN; exact forceN_eq l _
theorem waits_more {ops : List Oper} : ∀ (n j i k : Nat) (o : Oper), waits ops n j i = true → ops[i]? = some o → k ∈ bindsOf o → ∃ n', waits ops n' j k = true
  | 0, j, i, k, o, h, _, _ => by cases h
  | n + 1, j, i, k, o, h, ho, hk => by
    unfold waits at h
    split at h
    · rename_i oj hoj
      simp only [List.any_eq_true, Bool.and_eq_true, Bool.or_eq_true, beq_iff_eq] at h
      obtain ⟨e, he, hb, h⟩ := h
      rcases h with h | h
      · obtain ⟨q, hq1, hq2, rfl⟩ := bindsOf_mem hk
        refine ⟨2, ?_⟩
        unfold waits
        rw [hoj]
        simp only [List.any_eq_true, Bool.and_eq_true, Bool.or_eq_true, beq_iff_eq]
        refine ⟨e, he, hb, .inr ?_⟩
        unfold waits
        rw [h, ho]
        simp only [List.any_eq_true, Bool.and_eq_true, Bool.or_eq_true, beq_iff_eq]
        exact ⟨q, hq1, hq2, .inl rfl⟩
      · obtain ⟨n', hn⟩ := waits_more n e.on i k o h ho hk
        refine ⟨n' + 1, ?_⟩
        unfold waits
        rw [hoj]
        simp only [List.any_eq_true, Bool.and_eq_true, Bool.or_eq_true, beq_iff_eq]
        exact ⟨e, he, hb, .inr hn⟩
    · cases h
theorem chainS_spec {ops : List Oper} {j : Nat} : ∀ (n : Nat) (S : List Nat), chainS ops n S = true → (∀ x ∈ S, ∃ k, waits ops k j x = true) → ∀ i, i < n → ∃ k, waits ops k j i = true
  | 0, S, _, _, i, hi => by omega
  | n + 1, S, h, hS, i, hi => by
    unfold chainS at h
    obtain ⟨h1, h2⟩ := cond_some' h
    have hn : ∃ k, waits ops k j n = true := hS n (by simpa using h1)
    rw [forceN_eq] at h2
    by_cases e : i = n
    · subst e; exact hn
    · refine chainS_spec n _ h2 (fun x hx => ?_) i (by omega)
      rcases addN_mem _ _ _ hx with hx | hx
      · exact hS x hx
      · obtain ⟨k, hk⟩ := hn
        split at hx
        · rename_i o ho; exact waits_more k j n x o hk ho hx
        · cases hx
theorem chainG_spec {ops : List Oper} : ∀ (n m : Nat), chainG ops m n = true → ∀ j, m ≤ j → j < m + n → chainAt ops j = true
  | 0, m, _, j, h1, h2 => by omega
  | n + 1, m, h, j, h1, h2 => by
    unfold chainG at h
    rw [Bool.and_eq_true] at h
    by_cases e : j = m
    · subst e; exact h.1
    · exact chainG_spec n (m + 1) h.2 j (by omega) (by omega)
theorem chain_spec {ops : List Oper} {m : Nat} (h : chainFrom ops m = true) : ∀ (j : Nat) o, ops[j]? = some o → m ≤ j → (∀ e ∈ o.after.toList, Region.binds .any e = true → e.on < j) ∧ ∀ i, i < j → ∃ n, waits ops n j i = true := by
  intro j o ho hj
  unfold chainFrom at h
  have hlt : j < ops.length := (List.getElem?_eq_some_iff.1 ho).1
  have h1 := chainG_spec _ _ h j hj (by omega)
  unfold chainAt at h1
  rw [ho] at h1
  simp only [Bool.and_eq_true, List.all_eq_true, forceN_eq] at h1
  refine ⟨fun e he hb => nb_lt (h1.1 e.on ?_), chainS_spec j _ h1.2 fun x hx => ?_⟩
  · unfold bindsOf
    exact List.mem_map.2 ⟨e, List.mem_filter.2 ⟨he, hb⟩, rfl⟩
  · obtain ⟨q, hq1, hq2, rfl⟩ := bindsOf_mem hx
    refine ⟨1, ?_⟩
    unfold waits
    rw [ho]
    simp only [List.any_eq_true, Bool.and_eq_true, Bool.or_eq_true, beq_iff_eq]
    exact ⟨q, hq1, hq2, .inl rfl⟩
theorem tail_any {P : Program} {ops : Array Oper} {Q : Exit → Act → World → Prop} {m : Nat} (hch : ∀ (j : Nat) o, ops.toList[j]? = some o → m ≤ j → (∀ e ∈ o.after.toList, Region.binds .any e = true → e.on < j) ∧ ∀ i, m ≤ i → i < j → ∃ n, waits ops.toList n j i = true) (hed : ∀ (j : Nat) o, ops.toList[j]? = some o → ∀ e ∈ o.after.toList, Region.binds .any e = true → e.on < j) : ∀ (n k : Nat) (fuel : Nat) (listed : Array Bool) (a : Act) (w : World), k + n = ops.size → m ≤ k → listed.size = ops.size → (∀ i, i < ops.size → listed.getD i false = decide (i < k)) → n ≤ fuel →
    wpOps P ops Q (List.range' k n) a w → wpAny P .any ops Q fuel listed a w := by
  intro n
  induction n with
  | zero =>
    intro k fuel listed a w hkn hmk hls hl hf h
    have hr : Region.ready .any ops listed = [] := by
      rw [List.eq_nil_iff_forall_not_mem]
      intro i him
      obtain ⟨h0, o, ho, _⟩ := mem_ready.1 him
      have hi : i < ops.size := (Array.getElem?_eq_some_iff.1 ho).1
      have h4 : i < listed.size := by omega
      have h5 := hl i hi
      simp only [Array.getD_eq_getD_getElem?, Array.getElem?_eq_getElem h4, Option.getD_some] at h0 h5
      rw [h0] at h5
      have := of_decide_eq_false h5.symm
      omega
    cases fuel with
    | zero => exact ⟨hr, h⟩
    | succ fuel => exact ⟨fun _ => h, fun i him => by rw [hr] at him; cases him⟩
  | succ n ih =>
    intro k fuel listed a w hkn hmk hls hl hf h
    cases fuel with
    | zero => omega
    | succ fuel =>
      have hk : k < ops.size := by omega
      have hko : ops.toList[k]? = some ops[k] := by simp [hk]
      have hready : ∀ i, i ∈ Region.ready .any ops listed → i = k := by
        intro i him
        obtain ⟨h0, o, ho, hafter⟩ := mem_ready.1 him
        have hi : i < ops.size := (Array.getElem?_eq_some_iff.1 ho).1
        have h4 : i < listed.size := by omega
        have h5 := hl i hi
        simp only [Array.getD_eq_getD_getElem?, Array.getElem?_eq_getElem h4, Option.getD_some] at h0 h5
        rw [h0] at h5
        have hik := of_decide_eq_false h5.symm
        by_cases e : i = k
        · exact e
        · exfalso
          have hoL : ops.toList[i]? = some o := by simpa using ho
          obtain ⟨_, hw⟩ := hch i o hoL (by omega)
          obtain ⟨n0, hwk⟩ := hw k hmk (by omega)
          have hcl : Closed ops.toList (fun i => listed.getD i false) := by
            intro j oj hoj hjs e2 he2 hb2
            have hjs : listed.getD j false = true := hjs
            have hj : j < ops.size := by have := (List.getElem?_eq_some_iff.1 hoj).1; simpa using this
            rw [hl j hj] at hjs
            have h6 := hed j oj hoj e2 (by simpa using he2) hb2
            have h7 := of_decide_eq_true hjs
            show listed.getD e2.on false = true
            rw [hl e2.on (by omega)]
            simp; omega
          have hlen0 : ∀ (n : Nat), waits ops.toList n i k = true → listed.getD k false = true := by
            intro n hn
            cases n with
            | zero => cases hn
            | succ n =>
              unfold waits at hn
              rw [hoL] at hn
              simp only [List.any_eq_true, Bool.and_eq_true, Bool.or_eq_true, beq_iff_eq] at hn
              obtain ⟨e2, he2, hb2, h6⟩ := hn
              have h7 := hafter e2 (by simpa using he2) hb2
              rcases h6 with h6 | h6
              · rw [← h6]; exact h7
              · exact waits_closed hcl n e2.on k h6 h7
          have := hlen0 _ hwk
          rw [hl k hk] at this
          have := of_decide_eq_true this
          omega
      refine ⟨fun hr => ?_, fun i him => ?_⟩
      · exfalso
        have : k ∈ Region.ready .any ops listed := by
          have h4 : k < listed.size := by omega
          have h5 := hl k hk
          refine mem_ready.2 ⟨?_, ops[k], by simp [hk], fun e he hb => ?_⟩
          · simp only [Array.getD_eq_getD_getElem?, Array.getElem?_eq_getElem h4, Option.getD_some] at h5 ⊢
            rw [h5]; simp
          · have h6 := (hch k _ hko hmk).1 e (by simpa using he) hb
            rw [hl e.on (by omega)]
            simpa using h6
        rw [hr] at this; cases this
      · obtain rfl := hready i him
        rw [List.range'_succ, wpOps_cons] at h
        refine wpOp_mono (fun a w h => ?_) h
        refine ih (i + 1) fuel _ a w (by omega) (by omega) (by simpa using hls) (fun j hj => ?_) (by omega) h
        by_cases e : j = i
        · subst e
          have h4 : j < listed.size := by omega
          simp [h4]
        · have : (listed.setIfInBounds i true).getD j false = listed.getD j false := getD_set_ne false (fun h => e h.symm)
          rw [this, hl j hj]
          have : (j < i) ↔ (j < i + 1) := by omega
          simp only [this]
theorem extract_wp {P : Program} {Q : Exit → Act → World → Prop} {o : Oper} {a : Act} {w : World} {K : Act → World → Prop} {x : Operand} {i : Nat} (ho : o.op = .extract x i) (h : o.wp P a w K Q) :
    ∃ v, (∀ w, (execOp a.eval o).run P w = .ok (.value v) w) ∧ K (a.put o.dst v) w := by
  have e : execOp a.eval o = (do pure (.value (← Instr.extract (a.eval x) i))) := by unfold execOp; simp only [ho]
  unfold Oper.wp at h
  rw [e] at h ⊢
  unfold Instr.extract at h ⊢
  cases hv : a.eval x with
  | tuple vs =>
    rw [hv] at h
    simp only at h ⊢
    cases hi : vs[i]? with
    | none => rw [hi] at h; exact False.elim h
    | some v => rw [hi] at h; exact ⟨v, fun w => rfl, h⟩
  | _ => rw [hv] at h; exact False.elim h
theorem lateB_spec {ops : Array Oper} {l : Nat} (h : lateB ops l = true) : ∃ o x i, ops[l]? = some o ∧ o.op = .extract x i ∧ o.guard = none ∧ ∀ (j : Nat) oj, ops[j]? = some oj → j ≠ l → (∀ e ∈ o.after, Region.binds .any e = true → e.on ≠ j) → (∀ e ∈ oj.after, Region.binds .any e = true → e.on ≠ l) → o.apart ops oj = true := by
  unfold lateB at h
  cases ho : ops[l]? with
  | none => rw [ho] at h; cases h
  | some o =>
    rw [ho] at h
    simp only [Bool.and_eq_true] at h
    obtain ⟨⟨h1, h2⟩, h3⟩ := h
    have hx : ∃ x i, o.op = .extract x i := by
      cases hop : o.op with
      | extract x i => exact ⟨x, i, rfl⟩
      | _ => rw [hop] at h1; cases h1
    obtain ⟨x, i, hx⟩ := hx
    have hg : o.guard = none := by
      cases hg : o.guard with
      | none => rfl
      | some _ => rw [hg] at h2; cases h2
    refine ⟨o, x, i, rfl, hx, hg, fun j oj hj hjl hn1 hn2 => ?_⟩
    rw [List.all_eq_true] at h3
    have h4 := h3 j (List.mem_range.2 (Array.getElem?_eq_some_iff.1 hj).1)
    rw [hj] at h4
    simp only [Bool.or_eq_true, beq_iff_eq, hjl, false_or, List.contains_iff_mem] at h4
    rcases h4 with (h4 | h4) | h4
    · obtain ⟨e, he, hb, heq⟩ := bindsOf_mem h4
      exact absurd heq (hn1 e (by simpa using he) hb)
    · obtain ⟨e, he, hb, heq⟩ := bindsOf_mem h4
      exact absurd heq (hn2 e (by simpa using he) hb)
    · exact h4
theorem chainLS_spec {ops : List Oper} {late : Nat → Bool} {j : Nat} : ∀ (n : Nat) (S : List Nat), chainLS ops late n S = true → (∀ x ∈ S, ∃ k, waits ops k j x = true) → ∀ i, i < n → (∃ k, waits ops k j i = true) ∨ late i = true
  | 0, _, _, _, i, hi => absurd hi (Nat.not_lt_zero i)
  | n + 1, S, h, hS, i, hi => by
    unfold chainLS at h
    cases hc : S.contains n with
    | true =>
      rw [hc, cond_true, forceN_eq] at h
      have hn : n ∈ S := by simpa using hc
      by_cases e : i = n
      · subst e; exact .inl (hS _ hn)
      · refine chainLS_spec n _ h (fun x hx => ?_) i (by omega)
        rcases addN_mem _ _ _ hx with hx | hx
        · exact hS x hx
        · cases ho : ops[n]? with
          | none => rw [ho] at hx; cases hx
          | some o =>
            rw [ho] at hx
            obtain ⟨k, hk⟩ := hS n hn
            exact waits_more k j n x o hk ho hx
    | false =>
      rw [hc, cond_false, Bool.and_eq_true] at h
      by_cases e : i = n
      · subst e; exact .inr h.1
      · exact chainLS_spec n S h.2 hS i (by omega)
theorem chainLG_spec {ops : List Oper} {late : Nat → Bool} : ∀ (n m : Nat), chainLG ops late m n = true → ∀ j, m ≤ j → j < m + n → chainLAt ops late j = true
  | 0, m, _, j, h1, h2 => by omega
  | n + 1, m, h, j, h1, h2 => by
    unfold chainLG at h
    rw [Bool.and_eq_true] at h
    by_cases e : j = m
    · subst e; exact h.1
    · exact chainLG_spec n (m + 1) h.2 j (by omega) (by omega)
theorem chainL_spec {ops : Array Oper} {m : Nat} (h : chainLG ops.toList (lateM ops m) m (ops.toList.length - m) = true) : ∀ (j : Nat) o, ops.toList[j]? = some o → m ≤ j → (∀ e ∈ o.after.toList, Region.binds .any e = true → e.on < j) ∧ ∀ i, i < j → (∃ n, waits ops.toList n j i = true) ∨ lateM ops m i = true := by
  intro j o ho hj
  have hlt : j < ops.toList.length := (List.getElem?_eq_some_iff.1 ho).1
  have h1 := chainLG_spec _ _ h j hj (by omega)
  unfold chainLAt at h1
  rw [ho] at h1
  simp only [Bool.and_eq_true, List.all_eq_true, forceN_eq] at h1
  refine ⟨fun e he hb => nb_lt (h1.1 e.on ?_), chainLS_spec j _ h1.2 fun x hx => ?_⟩
  · unfold bindsOf
    exact List.mem_map.2 ⟨e, List.mem_filter.2 ⟨he, hb⟩, rfl⟩
  · obtain ⟨q, hq1, hq2, rfl⟩ := bindsOf_mem hx
    refine ⟨1, ?_⟩
    unfold waits
    rw [ho]
    simp only [List.any_eq_true, Bool.and_eq_true, Bool.or_eq_true, beq_iff_eq]
    exact ⟨q, hq1, hq2, .inl rfl⟩
theorem drawn_any (hE : EOk E) {ops : Array Oper} {Q : Exit → Act → World → Prop} {s0 sN : St} {g : Gh} {a : Act} {w : World} {m : Nat} (hok : drawOk s0.fr.length (ops.toList.take m) = true) {late : Nat → Bool}
    (hch : ∀ (j : Nat) o, ops.toList[j]? = some o → m ≤ j → (∀ e ∈ o.after.toList, Region.binds .any e = true → e.on < j) ∧ ∀ i, i < j → (∃ n, waits ops.toList n j i = true) ∨ late i = true)
    (hlate : ∀ l, late l = true → l < m ∧ lateB ops l = true ∧ Region.noSelect ops = true ∧ ∀ c a d v w, Q (.panic c) (a.put d v) w → Q (.panic c) a w) (hst : drawStart (ops.toList.take m) s0 = true) (hen : drawEnd (ops.toList.take m) sN = true)
    (ht : Trace E ops.toList (some s0.bx) (ops.toList.take m) s0 sN) (hm : m ≤ ops.size) (h : Inv E B G0 w0 s0 g a w) (hk : ∀ g' a' w', Inv E B G0 w0 sN g' a' w' → wpOps E.P ops Q (List.range' m (ops.size - m)) a' w') : wpAny E.P .any ops Q ops.size (Array.replicate ops.size false) a { w with drawn := w.drawn + 1 } := by
  have hsp := drawOk_spec hok
  have hlm : (ops.toList.take m).length = m := by rw [List.length_take]; simp; omega
  have hdst : ∀ o ∈ ops.toList.take m, ∃ d, o.dst = some d := by
    intro o ho
    obtain ⟨i, hi⟩ := List.getElem?_of_mem ho
    obtain ⟨⟨d, hd, _⟩, _⟩ := hsp i o hi
    exact ⟨d, hd⟩
  obtain ⟨cs, hlen, hcs, hfin⟩ := trace_chgs (ops.toList.take m) s0 sN hdst ht
  subst hfin
  have hcsd : ∀ (i : Nat) o c, (ops.toList.take m)[i]? = some o → cs[i]? = some c → o.dst = some c.d := fun i o c h1 h2 => (hcs i o c h1 h2).1
  have hnd : (cs.map (·.d)).Nodup := by
    refine List.pairwise_iff_getElem.2 fun i j hi hj hij e => ?_
    rw [List.length_map] at hi hj
    have hiL : i < (ops.toList.take m).length := by omega
    have hjL : j < (ops.toList.take m).length := by omega
    have h1 := hcsd i _ _ (List.getElem?_eq_getElem hiL) (List.getElem?_eq_getElem hi)
    have h2 := hcsd j _ _ (List.getElem?_eq_getElem hjL) (List.getElem?_eq_getElem hj)
    simp only [List.getElem_map] at e
    refine (hsp i _ (List.getElem?_eq_getElem hiL)).2.1 j _ (List.getElem?_eq_getElem hjL) (by omega) ?_
    rw [h1, h2, e]
  have hfr : ∀ c ∈ cs, c.d < s0.fr.length := by
    intro c hc
    obtain ⟨i, hi⟩ := List.getElem?_of_mem hc
    have hiL : i < (ops.toList.take m).length := by rw [← hlen]; exact (List.getElem?_eq_some_iff.1 hi).1
    obtain ⟨⟨d, hd, hlt⟩, _⟩ := hsp i _ (List.getElem?_eq_getElem hiL)
    have := hcsd i _ c (List.getElem?_eq_getElem hiL) hi
    rw [this] at hd
    simp only [Option.some.injEq] at hd
    rw [hd]
    exact hlt
  have hsz : ops.toList.length = ops.size := by simp
  let sel (listed : Array Bool) : Nat → Bool := fun i => listed.getD i false
  have hed : ∀ (j : Nat) o, ops.toList[j]? = some o → ∀ e ∈ o.after.toList, Region.binds .any e = true → e.on < j := by
    intro j o hj
    by_cases hjm : j < m
    · exact (hsp j o (get_take hj hjm)).2.2.1
    · exact (hch j o hj (by omega)).1
  have key : ∀ (fuel : Nat) (listed : Array Bool) (g : Gh) (a : Act) (w : World), listed.size = ops.size → (listed.toList.countP fun b => !b) ≤ fuel → (∀ i, m ≤ i → listed.getD i false = false) → Closed ops.toList (sel listed) → Inv E B G0 w0 (selSt (sel listed) cs 0 s0) g a w → wpAny E.P .any ops Q fuel listed a w := by
    have full : ∀ (fuel : Nat) (listed : Array Bool) (g : Gh) (a : Act) (w : World), listed.size = ops.size → (listed.toList.countP fun b => !b) ≤ fuel → (∀ i, m ≤ i → listed.getD i false = false) → (∀ i, i < m → listed.getD i false = true) → Inv E B G0 w0 (selSt (sel listed) cs 0 s0) g a w → wpAny E.P .any ops Q fuel listed a w := by
      intro fuel listed g a w hls hc htl hall hi
      have e1 : selSt (sel listed) cs 0 s0 = selSt (fun _ => true) cs 0 s0 := selSt_congr _ _ cs 0 s0 fun i _ hi => hall i (by omega)
      rw [e1] at hi
      refine tail_any (fun j o ho hj => ⟨(hch j o ho hj).1, fun i hmi hij => ((hch j o ho hj).2 i hij).resolve_right fun hl => by have := (hlate i hl).1; omega⟩) hed (ops.size - m) m fuel listed a w (by omega) (Nat.le_refl _) hls (fun i hi => ?_) ?_ (hk g a w hi)
      · by_cases him : i < m
        · rw [hall i him]; simp [him]
        · rw [htl i (by omega)]; simp [him]
      · refine Nat.le_trans ?_ hc
        have h1 : (listed.toList.drop m).countP (fun b => !b) = (listed.toList.drop m).length := by
          rw [List.countP_eq_length]
          intro b hb
          obtain ⟨i, hi⟩ := List.getElem?_of_mem hb
          rw [List.getElem?_drop] at hi
          have h2 := htl (m + i) (by omega)
          have h3 : listed[m + i]? = some b := by simpa using hi
          rw [Array.getD_eq_getD_getElem?, h3, Option.getD_some] at h2
          rw [h2]; rfl
        have h2 : (listed.toList.drop m).countP (fun b => !b) ≤ listed.toList.countP fun b => !b := List.Sublist.countP_le (List.drop_sublist _ _)
        rw [h1, List.length_drop, Array.length_toList, hls] at h2
        exact h2
    intro fuel
    induction fuel with
    | zero =>
      intro listed g a w hls hc htl hcl hi
      refine full 0 listed g a w hls hc htl (fun i him => ?_) hi
      have h4 : i < listed.size := by omega
      cases hq : listed.getD i false with
      | true => rfl
      | false =>
        exfalso
        have h0 : listed[i] = false := by
          simpa only [Array.getD_eq_getD_getElem?, Array.getElem?_eq_getElem h4, Option.getD_some] using hq
        have : 0 < listed.toList.countP fun b => !b := List.countP_pos_iff.2 ⟨listed[i], by simp, by rw [h0]; rfl⟩
        omega
    | succ fuel ih =>
      intro listed g a w hls hc htl hcl hi
      by_cases hall0 : ∀ i, i < m → listed.getD i false = true
      · exact full (fuel + 1) listed g a w hls hc htl hall0 hi
      have stepO : ∀ i, i ∈ Region.ready .any ops listed → i < m → ∃ o, ops[i]? = some o ∧ ((Region.wanted o (yielded ops a.tmps) = true ∧ o.wp E.P a w (wpAny E.P .any ops Q fuel (listed.setIfInBounds i true)) Q) ∨ (Region.wanted o (yielded ops a.tmps) = false ∧ wpAny E.P .any ops Q fuel (listed.setIfInBounds i true) (a.put o.dst undef) w)) := by
        intro i him him'
        obtain ⟨h0, o, ho, hafter⟩ := mem_ready.1 him
        have hi' : i < ops.size := (Array.getElem?_eq_some_iff.1 ho).1
        have h4 : i < listed.size := by omega
        have h0' : listed[i] = false := by
          simpa only [Array.getD_eq_getD_getElem?, Array.getElem?_eq_getElem h4, Option.getD_some] using h0
        have hsel : sel listed i = false := by
          show listed.getD i false = false
          simp only [Array.getD_eq_getD_getElem?, Array.getElem?_eq_getElem h4, Option.getD_some, h0']
        have hoL : ops.toList[i]? = some o := by simpa using ho
        have hoI := get_take hoL him'
        have hiC : i < cs.length := by omega
        have hci : cs[i]? = some cs[i] := List.getElem?_eq_getElem hiC
        generalize cs[i] = c at hci
        obtain ⟨hod, si, _, hsi, hstep⟩ := hcs i o c hoI hci
        have hspi := hsp i o hoI
        have hlook : ∀ t, (∀ (j : Nat) o', (ops.toList.take m)[j]? = some o' → o'.dst = some t → j < i ∧ ∃ e ∈ o.after.toList, Region.binds .any e = true ∧ e.on = j) → slot (selSt (sel listed) cs 0 s0).fr t = slot si.fr t := by
          intro t htr
          rw [hsi]
          by_cases hex : ∃ cj ∈ cs, cj.d = t
          · obtain ⟨cj, hm, rfl⟩ := hex
            obtain ⟨j, hj⟩ := List.getElem?_of_mem hm
            have hjL : j < (ops.toList.take m).length := by rw [← hlen]; exact (List.getElem?_eq_some_iff.1 hj).1
            have hdj := hcsd j _ cj (List.getElem?_eq_getElem hjL) hj
            obtain ⟨hlt, e, he, hb, heq⟩ := htr j _ (List.getElem?_eq_getElem hjL) hdj
            have hjs : sel listed j = true := by rw [← heq]; exact hafter e (by simpa using he) hb
            rw [selSt_slot (sel listed) j cs 0 s0 cj (Nat.zero_le _) (by simpa using hj) hnd (hfr cj hm), selSt_slot (fun k => decide (k < i)) j cs 0 s0 cj (Nat.zero_le _) (by simpa using hj) hnd (hfr cj hm), if_pos hjs, if_pos (by simpa using hlt)]
          · rw [selSt_other _ t cs 0 s0 fun cj hm e => hex ⟨cj, hm, e⟩, selSt_other _ t cs 0 s0 fun cj hm e => hex ⟨cj, hm, e⟩]
        have hclI : Closed (ops.toList.take m) (sel listed) := fun j oj hoj => hcl j oj (take_get hoj).1
        obtain ⟨hnl, hnb⟩ := fresh_sel hlen hcsd hnd hfr hst hen hclI hci hsel
        have hst' := hstep (selSt (sel listed) cs 0 s0) (wantV_congr fun j want oj d hg hoj hd => hlook d fun j' o' hj' hd' => by
            have : j' = j := by
              by_cases e : j' = j
              · exact e
              · exact absurd (hd'.trans hd.symm) ((hsp j' o' hj').2.1 j oj (get_take hoj (by have := (hspi.2.2.2.2 j want hg).1; omega)) e)
            subst this
            exact hspi.2.2.2.2 j' want hg) (opR_congr (evalO_slot fun t htm => hlook t (hspi.2.2.2.1 t htm))) hnl hnb
        have halike : Alike (c.app (selSt (sel listed) cs 0 s0)) (selSt (sel (listed.setIfInBounds i true)) cs 0 s0) := by
          have h1 := selSt_more (sel listed) i cs 0 s0 c (Nat.zero_le _) (by simpa using hci) hsel hnd
          have e1 : selSt (fun j => if j = i then true else sel listed j) cs 0 s0 = selSt (sel (listed.setIfInBounds i true)) cs 0 s0 := selSt_congr _ _ cs 0 s0 fun j _ _ => by
            show _ = (listed.setIfInBounds i true).getD j false
            by_cases ej : j = i
            · subst ej; simp [h4]
            · rw [if_neg ej, getD_set_ne false (fun h => ej h.symm)]
          rw [e1] at h1
          exact h1
        have hcl' : Closed ops.toList (sel (listed.setIfInBounds i true)) := by
          intro j oj hoj hjs e he hb
          have hjs : (listed.setIfInBounds i true).getD j false = true := hjs
          show (listed.setIfInBounds i true).getD e.on false = true
          by_cases ej : j = i
          · subst ej
            rw [hoL] at hoj
            simp only [Option.some.injEq] at hoj
            subst hoj
            exact getD_set_true (hafter e he hb)
          · rw [getD_set_ne false (fun h => ej h.symm)] at hjs
            exact getD_set_true (hcl j oj hoj hjs e he hb)
        have hcount : (((listed.setIfInBounds i true).toList).countP fun b => !b) ≤ fuel := by
          have h5 : ((listed.setIfInBounds i true).toList).countP (fun b => !b) + 1 = listed.toList.countP fun b => !b := by
            rw [Array.toList_setIfInBounds]
            have hil : i < listed.toList.length := by simpa using h4
            have e1 : listed.toList = listed.toList.take i ++ listed.toList[i] :: listed.toList.drop (i + 1) := by
              rw [List.getElem_cons_drop, List.take_append_drop]
            have e2 : listed.toList.set i true = listed.toList.take i ++ true :: listed.toList.drop (i + 1) := by
              rw [List.set_eq_take_append_cons_drop, if_pos hil]
            rw [e2]
            conv => rhs; rw [e1]
            have e3 : listed.toList[i] = false := by simpa using h0'
            rw [e3]
            simp only [List.countP_append, List.countP_cons]
            simp
            omega
          omega
        have next : ∀ g' a' w', Inv E B G0 w0 (c.app (selSt (sel listed) cs 0 s0)) g' a' w' → wpAny E.P .any ops Q fuel (listed.setIfInBounds i true) a' w' := fun g' a' w' hi' =>
          ih (listed.setIfInBounds i true) g' a' w' (by simpa using hls) hcount (fun j hj => by rw [getD_set_ne false (by omega)]; exact htl j hj) hcl' (hi'.alike halike)
        refine ⟨o, ho, ?_⟩
        rcases hst' with ⟨hw, eff, hor, _, hr⟩ | ⟨hw, heq⟩
        · refine .inl ⟨wantV_sound hi.fr hw, ?_⟩
          have hsub : ∀ k ds, lookBx s0.bx k = some ds → lookBx (selSt (sel listed) cs 0 s0).bx k = some ds := by
            intro k ds hkd
            have : ∀ (l : List Chg) (m : Nat) (s : St), (∀ c ∈ l, ∀ x, c.bx = some x → c.d ≠ k) → lookBx s.bx k = some ds → lookBx (selSt (sel listed) l m s).bx k = some ds := by
              intro l
              induction l with
              | nil => intro m s _ h; exact h
              | cons c l ih =>
                intro m s hne h
                unfold selSt
                refine ih (m + 1) _ (fun c' hc' => hne c' (List.mem_cons_of_mem _ hc')) ?_
                split
                · unfold Chg.app
                  cases hb : c.bx with
                  | none => exact h
                  | some x =>
                    unfold lookBx
                    have : (c.d == k) = false := by rw [beq_eq_false_iff_ne]; exact hne c List.mem_cons_self x hb
                    rw [this, cond_false]
                    exact h
                · exact h
            refine this cs 0 s0 (fun cj hcj x hx e => ?_) hkd
            obtain ⟨j, hj⟩ := List.getElem?_of_mem hcj
            have hjL : j < (ops.toList.take m).length := by rw [← hlen]; exact (List.getElem?_eq_some_iff.1 hj).1
            have hdj := hcsd j _ cj (List.getElem?_eq_getElem hjL) hj
            unfold drawStart at hst
            rw [List.all_eq_true] at hst
            have h6 := hst _ (List.getElem_mem hjL)
            rw [hdj] at h6
            simp only [Bool.and_eq_true] at h6
            exact (noBox_bx h6.2 k ds hkd).1 e.symm
          have hdo := opR_sound (ac := a) (B := B) (w := w) (g := g) (bx := s0.bx) hE rfl hi.gok hi.own (hi.bxs.sub hsub) hi.hB hi.m1 (fun y => evalO_rep hi.fr hi.globG y) hor
          exact eff_inv hi hdo hsub (fun h => by cases h) hr fun g' a' w' h' _ => next g' a' w' h'
        · refine .inr ⟨wantV_sound hi.fr hw, ?_⟩
          refine next g _ w ?_
          rw [heq]
          exact hi.put o.dst (v := .tup []) (u := undef) ⟨[], rfl, .nil⟩
      by_cases hL : ∃ l, l ∈ Region.ready .any ops listed ∧ late l = true
      · obtain ⟨l, hlr, hll⟩ := hL
        obtain ⟨hlm', hlb, hns, hQ⟩ := hlate l hll
        obtain ⟨ol, x, ix, hol, hox, hog, hap⟩ := lateB_spec hlb
        obtain ⟨o, ho, hst⟩ := stepO l hlr hlm'
        rw [hol] at ho
        simp only [Option.some.injEq] at ho
        subst ho
        rcases hst with ⟨_, hwp⟩ | ⟨hw, _⟩
        rotate_left
        · unfold Region.wanted at hw; rw [hog] at hw; cases hw
        obtain ⟨v, hv, hK⟩ := extract_wp hox hwp
        refine wpAny_first hol (Region.noSelect_spec hns) (fun c a w => hQ c a ol.dst v w) fuel listed a w (fun j oj hj hjl hun hno => ?_) hlr (.inl ⟨by unfold Region.wanted; rw [hog], hv⟩) hK
        refine hap j oj hj hjl (fun e he hb heq => ?_) hno
        obtain ⟨_, o2, ho2, hal⟩ := mem_ready.1 hlr
        rw [hol] at ho2
        simp only [Option.some.injEq] at ho2
        subst ho2
        have h1 := hal e he hb
        rw [heq] at h1
        have hj4 : j < listed.size := by have := (Array.getElem?_eq_some_iff.1 hj).1; omega
        simp only [Array.getD_eq_getD_getElem?, Array.getElem?_eq_getElem hj4, Option.getD_some] at h1 hun
        rw [h1] at hun; cases hun
      refine ⟨fun hr => ?_, fun i him => ?_⟩
      · exfalso
        apply hall0
        have hall : ∀ i, i < ops.size → listed.getD i true = true := by
          intro i
          induction i using Nat.strongRecOn with
          | _ i ih =>
            intro hi
            cases hl : listed.getD i true with
            | true => rfl
            | false =>
              have hm : i ∈ Region.ready .any ops listed := by
                rw [mem_ready]
                refine ⟨hl, ops[i], by simp [hi], fun e he hb => ?_⟩
                have h1 := hed i ops[i] (by simp [hi]) e (by simpa using he) hb
                have h2 := ih e.on h1 (by omega)
                have h4 : e.on < listed.size := by omega
                simp only [Array.getD_eq_getD_getElem?, Array.getElem?_eq_getElem h4, Option.getD_some] at h2 ⊢
                exact h2
              rw [hr] at hm
              cases hm
        intro i him
        have h1 := hall i (by omega)
        have h4 : i < listed.size := by omega
        simp only [Array.getD_eq_getD_getElem?, Array.getElem?_eq_getElem h4, Option.getD_some] at h1 ⊢
        exact h1
      obtain ⟨h0, o, ho, hafter⟩ := mem_ready.1 him
      have hi' : i < ops.size := (Array.getElem?_eq_some_iff.1 ho).1
      have h4 : i < listed.size := by omega
      have h0' : listed[i] = false := by
        simpa only [Array.getD_eq_getD_getElem?, Array.getElem?_eq_getElem h4, Option.getD_some] using h0
      have hsel : sel listed i = false := by
        show listed.getD i false = false
        simp only [Array.getD_eq_getD_getElem?, Array.getElem?_eq_getElem h4, Option.getD_some, h0']
      have hoL : ops.toList[i]? = some o := by simpa using ho
      have him' : i < m := by
        refine Nat.lt_of_not_le fun hmi => hall0 fun i' hi'm => ?_
        have key2 : ∀ (n : Nat) {i' : Nat}, waits ops.toList n i i' = true → listed.getD i' false = true := by
          intro n i' hn
          cases n with
          | zero => cases hn
          | succ n =>
            unfold waits at hn
            rw [hoL] at hn
            simp only [List.any_eq_true, Bool.and_eq_true, Bool.or_eq_true, beq_iff_eq] at hn
            obtain ⟨e2, he2, hb2, h6⟩ := hn
            have h7 := hafter e2 (by simpa using he2) hb2
            rcases h6 with h6 | h6
            · rw [← h6]; exact h7
            · exact waits_closed hcl n e2.on i' h6 h7
        obtain ⟨_, hw⟩ := hch i o hoL hmi
        have hlt : ∀ l, late l = true → listed.getD l false = true := by
          intro l
          induction l using Nat.strongRecOn with
          | _ l ihl =>
            intro hll
            cases hlq : listed.getD l false with
            | true => rfl
            | false =>
              exfalso
              obtain ⟨hlm', hlb, _, _⟩ := hlate l hll
              have hl4 : l < listed.size := by omega
              refine hL ⟨l, mem_ready.2 ⟨?_, ops[l]'(by omega), by simp, fun e he hb => ?_⟩, hll⟩
              · simp only [Array.getD_eq_getD_getElem?, Array.getElem?_eq_getElem hl4, Option.getD_some] at hlq ⊢
                exact hlq
              · have h1 := hed l (ops[l]'(by omega)) (by simp) e (by simpa using he) hb
                rcases hw e.on (by omega) with ⟨n, hn⟩ | hl2
                · exact key2 _ hn
                · exact ihl e.on h1 hl2
        rcases hw i' (by omega) with ⟨n0, hwk⟩ | hl2
        rotate_left
        · exact hlt i' hl2
        exact key2 _ hwk
      obtain ⟨o2, ho2, hst2⟩ := stepO i him him'
      unfold wpOp
      rw [ho2]
      simp only
      rcases hst2 with ⟨hw, h⟩ | ⟨hw, h⟩
      · rw [if_pos hw]; exact .inl h
      · rw [if_neg (by rw [hw]; decide)]; exact h
  have hinit : Inv E B G0 w0 (selSt (sel (Array.replicate ops.size false)) cs 0 s0) g a { w with drawn := w.drawn + 1 } := by
    have e1 : ∀ (l : List Chg) (k : Nat), selSt (sel (Array.replicate ops.size false)) l k s0 = s0 := by
      intro l
      induction l with
      | nil => intro k; rfl
      | cons c l ih =>
        intro k
        unfold selSt
        have : sel (Array.replicate ops.size false) k = false := by
          show (Array.replicate ops.size false).getD k false = false
          simp [Array.getElem?_replicate]
          split <;> rfl
        rw [this, if_neg (by decide)]
        exact ih (k + 1)
    rw [e1]
    exact h.drew
  refine key ops.size (Array.replicate ops.size false) g a _ (by simp) ?_ (fun i _ => by simp [Array.getElem?_replicate]; split <;> rfl) ?_ hinit
  · exact Nat.le_trans List.countP_le_length (by simp)
  · intro j o hj hs
    have hs : (Array.replicate ops.size false).getD j false = true := hs
    simp only [Array.getD_eq_getD_getElem?, Array.getElem?_replicate] at hs
    exfalso
    split at hs <;> cases hs
theorem drawn_wp (hE : EOk E) {ops : Array Oper} {id : Nat} {Q : Exit → Act → World → Prop} {s0 sN : St} {g : Gh} {a : Act} {w : World} {m : Nat} (hok : drawOk s0.fr.length (ops.toList.take m) = true) {late : Nat → Bool}
    (hch : ∀ (j : Nat) o, ops.toList[j]? = some o → m ≤ j → (∀ e ∈ o.after.toList, Region.binds .any e = true → e.on < j) ∧ ∀ i, i < j → (∃ n, waits ops.toList n j i = true) ∨ late i = true)
    (hlate : ∀ l, late l = true → l < m ∧ lateB ops l = true ∧ Region.noSelect ops = true ∧ ∀ c a d v w, Q (.panic c) (a.put d v) w → Q (.panic c) a w) (hst : drawStart (ops.toList.take m) s0 = true) (hen : drawEnd (ops.toList.take m) sN = true)
    (ht : Trace E ops.toList (some s0.bx) (ops.toList.take m) s0 sN) (hm : m ≤ ops.size) (h : Inv E B G0 w0 s0 g a w) (hk : ∀ g' a' w', Inv E B G0 w0 sN g' a' w' → wpOps E.P ops Q (List.range' m (ops.size - m)) a' w') : (Code.region id ops true).wp E.P Q a w :=
  wp_region_any hE.mixed (drawn_any hE hok hch hlate hst hen ht hm h hk)
theorem selSt_put (sel : Nat → Bool) (k : Nat) (v : List V) : ∀ (l : List Chg) (n : Nat) (s : St), (∀ c ∈ l, ∀ x, c.bx = some x → c.d ≠ k) → selSt sel l n ⟨s.fr, setBx s.bx k v⟩ = ⟨(selSt sel l n s).fr, setBx (selSt sel l n s).bx k v⟩
  | [], _, _, _ => rfl
  | c :: l, n, s, h => by
    have happ : c.app ⟨s.fr, setBx s.bx k v⟩ = ⟨(c.app s).fr, setBx (c.app s).bx k v⟩ := by
      unfold Chg.app
      cases hb : c.bx with
      | none => rfl
      | some x =>
        have : (c.d == k) = false := by rw [beq_eq_false_iff_ne]; exact h c List.mem_cons_self x hb
        simp only [setBx, this, cond_false]
    unfold selSt
    cases hs : sel n with
    | true => rw [if_pos rfl, if_pos rfl, happ]; exact selSt_put sel k v l (n + 1) _ fun c hc => h c (List.mem_cons_of_mem _ hc)
    | false => rw [if_neg (by decide), if_neg (by decide)]; exact selSt_put sel k v l (n + 1) s fun c hc => h c (List.mem_cons_of_mem _ hc)
theorem setBx_back (k : Nat) (v old : List V) : ∀ (l : List (Nat × List V)), lookBx l k = some old → setBx (setBx l k v) k old = l
  | [], h => by cases h
  | (j, cs) :: l, h => by
    have hc : ∀ (v : List V) (cs : List V) (l : List (Nat × List V)), setBx ((j, cs) :: l) k v = bif j == k then (j, v) :: l else (j, cs) :: setBx l k v := fun _ _ _ => rfl
    unfold lookBx at h
    rw [hc]
    cases hj : j == k with
    | true =>
      rw [hj, cond_true] at h
      simp only [Option.some.injEq] at h
      rw [cond_true, hc, hj, cond_true, h]
    | false =>
      rw [hj, cond_false] at h
      rw [cond_false, hc, hj, cond_false, setBx_back k v old l h]
theorem dropBx_look (k : Nat) : ∀ (l : List (Nat × List V)) (j : Nat) (ds : List V), lookBx (dropBx l k) j = some ds → j ≠ k ∧ lookBx l j = some ds
  | [], j, ds, h => by cases h
  | (i, cs) :: l, j, ds, h => by
    unfold dropBx at h
    cases hi : i == k with
    | true =>
      rw [hi, cond_true] at h
      obtain ⟨h1, h2⟩ := dropBx_look k l j ds h
      refine ⟨h1, ?_⟩
      unfold lookBx
      have : (i == j) = false := by rw [beq_eq_false_iff_ne]; rw [beq_iff_eq] at hi; intro e; exact h1 (e ▸ hi)
      rw [this]; exact h2
    | false =>
      rw [hi, cond_false] at h
      unfold lookBx at h ⊢
      cases hj : i == j with
      | true =>
        rw [hj] at h
        rw [beq_iff_eq] at hj
        subst hj
        exact ⟨by rw [beq_eq_false_iff_ne] at hi; exact hi, h⟩
      | false =>
        rw [hj] at h
        exact dropBx_look k l j ds h
theorem setBx_other (k : Nat) (v : List V) : ∀ (l : List (Nat × List V)) (j : Nat), j ≠ k → lookBx (setBx l k v) j = lookBx l j
  | [], _, _ => rfl
  | (i, cs) :: l, j, h => by
    unfold setBx
    cases hi : i == k with
    | true =>
      rw [cond_true]
      rw [beq_iff_eq] at hi
      subst hi
      unfold lookBx
      have : (i == j) = false := by rw [beq_eq_false_iff_ne]; exact fun e => h e.symm
      rw [this, cond_false, cond_false]
    | false =>
      rw [cond_false]
      unfold lookBx
      rw [setBx_other k v l j h]
theorem drawn_early (hE : EOk E) {ops : Array Oper} {id : Nat} {Q : Exit → Act → World → Prop} {s0 s1 sN : St} {g : Gh} {a : Act} {w : World} {m : Nat} {p : Oper} {k off : Nat} {cells old : List V} (hok : drawOk s0.fr.length (ops.toList.take m) = true)
    (hp : ops.toList[m]? = some p) (hea : earlyB ops.toList m = true) (hop : opR E s0.fr s0.bx p = some (true, .put k off cells)) (hold : lookBx s0.bx k = some old) (hbld : isBld (over old off cells) = true → isBld old = true) (hs1 : s1 = ⟨s0.fr, setBx s0.bx k (over old off cells)⟩)
    (hch : ∀ (j : Nat) o, ops.toList[j]? = some o → m + 1 ≤ j → (∀ e ∈ o.after.toList, Region.binds .any e = true → e.on < j) ∧ ∀ i, i < j → ∃ n, waits ops.toList n j i = true)
    (hst0 : drawStart (ops.toList.take m) s0 = true) (hst1 : drawStart (ops.toList.take m) s1 = true) (hen1 : drawEnd (ops.toList.take m) sN = true) (hen0 : drawEnd (ops.toList.take m) ⟨sN.fr, setBx sN.bx k old⟩ = true)
    (ht : Trace E ops.toList (some (dropBx s0.bx k)) (ops.toList.take m) s1 sN) (hm : m + 1 ≤ ops.size) (h : Inv E B G0 w0 s0 g a w) (hk : ∀ g' a' w', Inv E B G0 w0 sN g' a' w' → wpOps E.P ops Q (List.range' (m + 1) (ops.size - (m + 1))) a' w') : (Code.region id ops true).wp E.P Q a w := by
  have hsp := drawOk_spec hok
  have hlm : (ops.toList.take m).length = m := by rw [List.length_take]; simp; omega
  have hdst : ∀ o ∈ ops.toList.take m, ∃ d, o.dst = some d := by
    intro o ho
    obtain ⟨i, hi⟩ := List.getElem?_of_mem ho
    obtain ⟨⟨d, hd, _⟩, _⟩ := hsp i o hi
    exact ⟨d, hd⟩
  obtain ⟨cs, hlen, hcs, hfin⟩ := trace_chgs (ops.toList.take m) s1 sN hdst ht
  subst hfin
  have hcsd : ∀ (i : Nat) o c, (ops.toList.take m)[i]? = some o → cs[i]? = some c → o.dst = some c.d := fun i o c h1 h2 => (hcs i o c h1 h2).1
  have hnd : (cs.map (·.d)).Nodup := by
    refine List.pairwise_iff_getElem.2 fun i j hi hj hij e => ?_
    rw [List.length_map] at hi hj
    have hiL : i < (ops.toList.take m).length := by omega
    have hjL : j < (ops.toList.take m).length := by omega
    have h1 := hcsd i _ _ (List.getElem?_eq_getElem hiL) (List.getElem?_eq_getElem hi)
    have h2 := hcsd j _ _ (List.getElem?_eq_getElem hjL) (List.getElem?_eq_getElem hj)
    simp only [List.getElem_map] at e
    refine (hsp i _ (List.getElem?_eq_getElem hiL)).2.1 j _ (List.getElem?_eq_getElem hjL) (by omega) ?_
    rw [h1, h2, e]
  have hfr : ∀ c ∈ cs, c.d < s0.fr.length := by
    intro c hc
    obtain ⟨i, hi⟩ := List.getElem?_of_mem hc
    have hiL : i < (ops.toList.take m).length := by rw [← hlen]; exact (List.getElem?_eq_some_iff.1 hi).1
    obtain ⟨⟨d, hd, hlt⟩, _⟩ := hsp i _ (List.getElem?_eq_getElem hiL)
    have := hcsd i _ c (List.getElem?_eq_getElem hiL) hi
    rw [this] at hd
    simp only [Option.some.injEq] at hd
    rw [hd]
    exact hlt
  have hsz : ops.toList.length = ops.size := by simp
  have hpm : m < ops.toList.length := by omega
  obtain ⟨hpd, hpg, hpa, hpr⟩ : p.dst = none ∧ p.guard = none ∧ (∀ e ∈ p.after.toList, Region.binds .any e = false) ∧ ∀ t ∈ readsO p, ∀ o ∈ ops.toList.take m, o.dst ≠ some t := by
    unfold earlyB at hea
    rw [hp] at hea
    simp only [Bool.and_eq_true, List.all_eq_true, Bool.not_eq_true', bne_iff_ne, ne_eq] at hea
    obtain ⟨⟨⟨q1, q2⟩, q3⟩, q4⟩ := hea
    refine ⟨?_, ?_, q3, q4⟩
    · cases hq : p.dst with
      | none => rfl
      | some d => rw [hq] at q1; cases q1
    · cases hq : p.guard with
      | none => rfl
      | some d => rw [hq] at q2; cases q2
  have hcdk : ∀ c ∈ cs, ∀ x, c.bx = some x → c.d ≠ k := by
    intro cj hcj x _ e
    obtain ⟨j, hj⟩ := List.getElem?_of_mem hcj
    have hjL : j < (ops.toList.take m).length := by rw [← hlen]; exact (List.getElem?_eq_some_iff.1 hj).1
    have hdj := hcsd j _ cj (List.getElem?_eq_getElem hjL) hj
    unfold drawStart at hst0
    rw [List.all_eq_true] at hst0
    have h6 := hst0 _ (List.getElem_mem hjL)
    rw [hdj] at h6
    simp only [Bool.and_eq_true] at h6
    exact (noBox_bx h6.2 k old hold).1 e.symm
  have hput : ∀ sel : Nat → Bool, selSt sel cs 0 s1 = ⟨(selSt sel cs 0 s0).fr, setBx (selSt sel cs 0 s0).bx k (over old off cells)⟩ := fun sel => by
    rw [hs1]; exact selSt_put sel k _ cs 0 s0 hcdk
  have hsub0 : ∀ (sel : Nat → Bool) (l : List Chg) (n : Nat) (s : St) (j : Nat) (ds : List V), (∀ c ∈ l, ∀ x, c.bx = some x → c.d ≠ j) → lookBx s.bx j = some ds → lookBx (selSt sel l n s).bx j = some ds := by
    intro sel l
    induction l with
    | nil => intro n s j ds _ h; exact h
    | cons c l ih =>
      intro n s j ds hne h
      unfold selSt
      refine ih (n + 1) _ j ds (fun c' hc' => hne c' (List.mem_cons_of_mem _ hc')) ?_
      split
      · unfold Chg.app
        cases hb : c.bx with
        | none => exact h
        | some x =>
          unfold lookBx
          have : (c.d == j) = false := by rw [beq_eq_false_iff_ne]; exact hne c List.mem_cons_self x hb
          rw [this, cond_false]
          exact h
      · exact h
  have hen00 : drawEnd (ops.toList.take m) (selSt (fun _ => true) cs 0 s0) = true := by
    have e := hput (fun _ => true)
    rw [e] at hen0
    simp only at hen0
    rw [setBx_back k _ old _ (hsub0 _ cs 0 s0 k old hcdk hold)] at hen0
    exact hen0
  have hnew : ∀ j ds, lookBx s0.bx j = some ds → ∀ c ∈ cs, ∀ x, c.bx = some x → c.d ≠ j := by
    intro j ds hkd cj hcj x hx e
    obtain ⟨i, hi⟩ := List.getElem?_of_mem hcj
    have hjL : i < (ops.toList.take m).length := by rw [← hlen]; exact (List.getElem?_eq_some_iff.1 hi).1
    have hdj := hcsd i _ cj (List.getElem?_eq_getElem hjL) hi
    unfold drawStart at hst0
    rw [List.all_eq_true] at hst0
    have h6 := hst0 _ (List.getElem_mem hjL)
    rw [hdj] at h6
    simp only [Bool.and_eq_true] at h6
    exact (noBox_bx h6.2 j ds hkd).1 e.symm
  refine wp_region_any hE.mixed ?_
  let sel (listed : Array Bool) : Nat → Bool := fun i => listed.getD i false
  let base (listed : Array Bool) : St := if listed.getD m false = true then s1 else s0
  have hbase : ∀ listed, base listed = s0 ∨ base listed = s1 := fun listed => by
    show (if listed.getD m false = true then s1 else s0) = s0 ∨ _
    by_cases e : listed.getD m false = true
    · exact .inr (if_pos e)
    · exact .inl (if_neg e)
  have hbfr : ∀ s', (s' = s0 ∨ s' = s1) → s'.fr = s0.fr := by
    rintro s' (rfl | rfl)
    · rfl
    · rw [hs1]
  have hbst : ∀ s', (s' = s0 ∨ s' = s1) → drawStart (ops.toList.take m) s' = true ∧ drawEnd (ops.toList.take m) (selSt (fun _ => true) cs 0 s') = true := by
    rintro s' (rfl | rfl)
    · exact ⟨hst0, hen00⟩
    · exact ⟨hst1, hen1⟩
  have hbsub : ∀ s', (s' = s0 ∨ s' = s1) → ∀ (sel : Nat → Bool) j ds, lookBx (dropBx s0.bx k) j = some ds → lookBx (selSt sel cs 0 s').bx j = some ds := by
    rintro s' hb sel j ds hj
    obtain ⟨h1, h2⟩ := dropBx_look k _ j ds hj
    refine hsub0 sel cs 0 s' j ds (hnew j ds h2) ?_
    rcases hb with rfl | rfl
    · exact h2
    · rw [hs1]; exact (setBx_other k _ _ j h1).trans h2
  have hed : ∀ (j : Nat) o, ops.toList[j]? = some o → ∀ e ∈ o.after.toList, Region.binds .any e = true → e.on < j := by
    intro j o hj
    by_cases hjm : j < m
    · exact (hsp j o (get_take hj hjm)).2.2.1
    · by_cases hje : j = m
      · subst hje
        rw [hp] at hj
        simp only [Option.some.injEq] at hj
        subst hj
        intro e he hb
        rw [hpa e he] at hb
        cases hb
      · exact (hch j o hj (by omega)).1
  have key : ∀ (fuel : Nat) (listed : Array Bool) (g : Gh) (a : Act) (w : World), listed.size = ops.size → (listed.toList.countP fun b => !b) ≤ fuel → (∀ i, m + 1 ≤ i → listed.getD i false = false) → Closed ops.toList (sel listed) → Inv E B G0 w0 (selSt (sel listed) cs 0 (base listed)) g a w → wpAny E.P .any ops Q fuel listed a w := by
    have full : ∀ (fuel : Nat) (listed : Array Bool) (g : Gh) (a : Act) (w : World), listed.size = ops.size → (listed.toList.countP fun b => !b) ≤ fuel → (∀ i, m + 1 ≤ i → listed.getD i false = false) → (∀ i, i < m + 1 → listed.getD i false = true) → Inv E B G0 w0 (selSt (sel listed) cs 0 (base listed)) g a w → wpAny E.P .any ops Q fuel listed a w := by
      intro fuel listed g a w hls hc htl hall hi
      have e1 : selSt (sel listed) cs 0 (base listed) = selSt (fun _ => true) cs 0 s1 := by
        have e0 : base listed = s1 := if_pos (hall m (by omega))
        rw [e0]
        exact selSt_congr _ _ cs 0 s1 fun i _ hi => hall i (by omega)
      rw [e1] at hi
      refine tail_any (fun j o ho hj => ⟨(hch j o ho hj).1, fun i hmi hij => (hch j o ho hj).2 i hij⟩) hed (ops.size - (m + 1)) (m + 1) fuel listed a w (by omega) (Nat.le_refl _) hls (fun i hi => ?_) ?_ (hk g a w hi)
      · by_cases him : i < m + 1
        · rw [hall i him]; simp [him]
        · rw [htl i (by omega)]; simp [him]
      · refine Nat.le_trans ?_ hc
        have h1 : (listed.toList.drop (m + 1)).countP (fun b => !b) = (listed.toList.drop (m + 1)).length := by
          rw [List.countP_eq_length]
          intro b hb
          obtain ⟨i, hi⟩ := List.getElem?_of_mem hb
          rw [List.getElem?_drop] at hi
          have h2 := htl (m + 1 + i) (by omega)
          have h3 : listed[m + 1 + i]? = some b := by simpa using hi
          rw [Array.getD_eq_getD_getElem?, h3, Option.getD_some] at h2
          rw [h2]; rfl
        have h2 : (listed.toList.drop (m + 1)).countP (fun b => !b) ≤ listed.toList.countP fun b => !b := List.Sublist.countP_le (List.drop_sublist _ _)
        rw [h1, List.length_drop, Array.length_toList, hls] at h2
        exact h2
    intro fuel
    induction fuel with
    | zero =>
      intro listed g a w hls hc htl hcl hi
      refine full 0 listed g a w hls hc htl (fun i him => ?_) hi
      have h4 : i < listed.size := by omega
      cases hq : listed.getD i false with
      | true => rfl
      | false =>
        exfalso
        have h0 : listed[i] = false := by
          simpa only [Array.getD_eq_getD_getElem?, Array.getElem?_eq_getElem h4, Option.getD_some] using hq
        have : 0 < listed.toList.countP fun b => !b := List.countP_pos_iff.2 ⟨listed[i], by simp, by rw [h0]; rfl⟩
        omega
    | succ fuel ih =>
      intro listed g a w hls hc htl hcl hi
      by_cases hall0 : ∀ i, i < m + 1 → listed.getD i false = true
      · exact full (fuel + 1) listed g a w hls hc htl hall0 hi
      have stepO : ∀ i, i ∈ Region.ready .any ops listed → i < m → ∃ o, ops[i]? = some o ∧ ((Region.wanted o (yielded ops a.tmps) = true ∧ o.wp E.P a w (wpAny E.P .any ops Q fuel (listed.setIfInBounds i true)) Q) ∨ (Region.wanted o (yielded ops a.tmps) = false ∧ wpAny E.P .any ops Q fuel (listed.setIfInBounds i true) (a.put o.dst undef) w)) := by
        intro i him him'
        have hi := hi
        obtain ⟨h0, o, ho, hafter⟩ := mem_ready.1 him
        have hi' : i < ops.size := (Array.getElem?_eq_some_iff.1 ho).1
        have h4 : i < listed.size := by omega
        have h0' : listed[i] = false := by
          simpa only [Array.getD_eq_getD_getElem?, Array.getElem?_eq_getElem h4, Option.getD_some] using h0
        have hsel : sel listed i = false := by
          show listed.getD i false = false
          simp only [Array.getD_eq_getD_getElem?, Array.getElem?_eq_getElem h4, Option.getD_some, h0']
        have hoL : ops.toList[i]? = some o := by simpa using ho
        have hoI := get_take hoL him'
        have hiC : i < cs.length := by omega
        have hci : cs[i]? = some cs[i] := List.getElem?_eq_getElem hiC
        generalize cs[i] = c at hci
        obtain ⟨hod, si, _, hsi, hstep⟩ := hcs i o c hoI hci
        have hspi := hsp i o hoI
        have hb0 := hbase listed
        generalize hbe : base listed = sb at hi hb0
        have hfb := hbfr sb hb0
        have hf1 := hbfr s1 (.inr rfl)
        have hfr1 : ∀ c ∈ cs, c.d < s1.fr.length := fun c hc => by rw [hf1]; exact hfr c hc
        have hfrb : ∀ c ∈ cs, c.d < sb.fr.length := fun c hc => by rw [hfb]; exact hfr c hc
        have hlook : ∀ t, (∀ (j : Nat) o', (ops.toList.take m)[j]? = some o' → o'.dst = some t → j < i ∧ ∃ e ∈ o.after.toList, Region.binds .any e = true ∧ e.on = j) → slot (selSt (sel listed) cs 0 sb).fr t = slot si.fr t := by
          intro t htr
          rw [hsi]
          by_cases hex : ∃ cj ∈ cs, cj.d = t
          · obtain ⟨cj, hm, rfl⟩ := hex
            obtain ⟨j, hj⟩ := List.getElem?_of_mem hm
            have hjL : j < (ops.toList.take m).length := by rw [← hlen]; exact (List.getElem?_eq_some_iff.1 hj).1
            have hdj := hcsd j _ cj (List.getElem?_eq_getElem hjL) hj
            obtain ⟨hlt, e, he, hb, heq⟩ := htr j _ (List.getElem?_eq_getElem hjL) hdj
            have hjs : sel listed j = true := by rw [← heq]; exact hafter e (by simpa using he) hb
            rw [selSt_slot (sel listed) j cs 0 sb cj (Nat.zero_le _) (by simpa using hj) hnd (hfrb cj hm), selSt_slot (fun k => decide (k < i)) j cs 0 s1 cj (Nat.zero_le _) (by simpa using hj) hnd (hfr1 cj hm), if_pos hjs, if_pos (by simpa using hlt)]
          · rw [selSt_other _ t cs 0 sb fun cj hm e => hex ⟨cj, hm, e⟩, selSt_other _ t cs 0 s1 fun cj hm e => hex ⟨cj, hm, e⟩, hfb, hf1]
        have hclI : Closed (ops.toList.take m) (sel listed) := fun j oj hoj => hcl j oj (take_get hoj).1
        obtain ⟨hnl, hnb⟩ := fresh_sel hlen hcsd hnd hfrb (hbst sb hb0).1 (hbst sb hb0).2 hclI hci hsel
        have hst' := hstep (selSt (sel listed) cs 0 sb) (wantV_congr fun j want oj d hg hoj hd => hlook d fun j' o' hj' hd' => by
            have : j' = j := by
              by_cases e : j' = j
              · exact e
              · exact absurd (hd'.trans hd.symm) ((hsp j' o' hj').2.1 j oj (get_take hoj (by have := (hspi.2.2.2.2 j want hg).1; omega)) e)
            subst this
            exact hspi.2.2.2.2 j' want hg) (opR_congr (evalO_slot fun t htm => hlook t (hspi.2.2.2.1 t htm))) hnl hnb
        have halike : Alike (c.app (selSt (sel listed) cs 0 sb)) (selSt (sel (listed.setIfInBounds i true)) cs 0 sb) := by
          have h1 := selSt_more (sel listed) i cs 0 sb c (Nat.zero_le _) (by simpa using hci) hsel hnd
          have e1 : selSt (fun j => if j = i then true else sel listed j) cs 0 sb = selSt (sel (listed.setIfInBounds i true)) cs 0 sb := selSt_congr _ _ cs 0 sb fun j _ _ => by
            show _ = (listed.setIfInBounds i true).getD j false
            by_cases ej : j = i
            · subst ej; simp [h4]
            · rw [if_neg ej, getD_set_ne false (fun h => ej h.symm)]
          rw [e1] at h1
          exact h1
        have hcl' : Closed ops.toList (sel (listed.setIfInBounds i true)) := by
          intro j oj hoj hjs e he hb
          have hjs : (listed.setIfInBounds i true).getD j false = true := hjs
          show (listed.setIfInBounds i true).getD e.on false = true
          by_cases ej : j = i
          · subst ej
            rw [hoL] at hoj
            simp only [Option.some.injEq] at hoj
            subst hoj
            exact getD_set_true (hafter e he hb)
          · rw [getD_set_ne false (fun h => ej h.symm)] at hjs
            exact getD_set_true (hcl j oj hoj hjs e he hb)
        have hcount : (((listed.setIfInBounds i true).toList).countP fun b => !b) ≤ fuel := by
          have h5 : ((listed.setIfInBounds i true).toList).countP (fun b => !b) + 1 = listed.toList.countP fun b => !b := by
            rw [Array.toList_setIfInBounds]
            have hil : i < listed.toList.length := by simpa using h4
            have e1 : listed.toList = listed.toList.take i ++ listed.toList[i] :: listed.toList.drop (i + 1) := by
              rw [List.getElem_cons_drop, List.take_append_drop]
            have e2 : listed.toList.set i true = listed.toList.take i ++ true :: listed.toList.drop (i + 1) := by
              rw [List.set_eq_take_append_cons_drop, if_pos hil]
            rw [e2]
            conv => rhs; rw [e1]
            have e3 : listed.toList[i] = false := by simpa using h0'
            rw [e3]
            simp only [List.countP_append, List.countP_cons]
            simp
            omega
          omega
        have hbl : base (listed.setIfInBounds i true) = sb := by
          show (if (listed.setIfInBounds i true).getD m false = true then s1 else s0) = sb
          rw [getD_set_ne false (by omega)]
          exact hbe
        have next : ∀ g' a' w', Inv E B G0 w0 (c.app (selSt (sel listed) cs 0 sb)) g' a' w' → wpAny E.P .any ops Q fuel (listed.setIfInBounds i true) a' w' := fun g' a' w' hi' =>
          ih (listed.setIfInBounds i true) g' a' w' (by simpa using hls) hcount (fun j hj => by rw [getD_set_ne false (by omega)]; exact htl j hj) hcl' (by rw [hbl]; exact hi'.alike halike)
        refine ⟨o, ho, ?_⟩
        rcases hst' with ⟨hw, eff, hor, _, hr⟩ | ⟨hw, heq⟩
        · refine .inl ⟨wantV_sound hi.fr hw, ?_⟩
          have hsub := hbsub sb hb0 (sel listed)
          have hdo := opR_sound (ac := a) (B := B) (w := w) (g := g) (bx := dropBx s0.bx k) hE rfl hi.gok hi.own (hi.bxs.sub hsub) hi.hB hi.m1 (fun y => evalO_rep hi.fr hi.globG y) hor
          exact eff_inv hi hdo hsub (fun h => by cases h) hr fun g' a' w' h' _ => next g' a' w' h'
        · refine .inr ⟨wantV_sound hi.fr hw, ?_⟩
          refine next g _ w ?_
          rw [heq]
          exact hi.put o.dst (v := .tup []) (u := undef) ⟨[], rfl, .nil⟩
      refine ⟨fun hr => ?_, fun i him => ?_⟩
      · exfalso
        apply hall0
        have hall : ∀ i, i < ops.size → listed.getD i true = true := by
          intro i
          induction i using Nat.strongRecOn with
          | _ i ih =>
            intro hi
            cases hl : listed.getD i true with
            | true => rfl
            | false =>
              have hm : i ∈ Region.ready .any ops listed := by
                rw [mem_ready]
                refine ⟨hl, ops[i], by simp [hi], fun e he hb => ?_⟩
                have h1 := hed i ops[i] (by simp [hi]) e (by simpa using he) hb
                have h2 := ih e.on h1 (by omega)
                have h4 : e.on < listed.size := by omega
                simp only [Array.getD_eq_getD_getElem?, Array.getElem?_eq_getElem h4, Option.getD_some] at h2 ⊢
                exact h2
              rw [hr] at hm
              cases hm
        intro i him
        have h1 := hall i (by omega)
        have h4 : i < listed.size := by omega
        simp only [Array.getD_eq_getD_getElem?, Array.getElem?_eq_getElem h4, Option.getD_some] at h1 ⊢
        exact h1
      obtain ⟨h0, o, ho, hafter⟩ := mem_ready.1 him
      have hi' : i < ops.size := (Array.getElem?_eq_some_iff.1 ho).1
      have h4 : i < listed.size := by omega
      have h0' : listed[i] = false := by
        simpa only [Array.getD_eq_getD_getElem?, Array.getElem?_eq_getElem h4, Option.getD_some] using h0
      have hsel : sel listed i = false := by
        show listed.getD i false = false
        simp only [Array.getD_eq_getD_getElem?, Array.getElem?_eq_getElem h4, Option.getD_some, h0']
      have hoL : ops.toList[i]? = some o := by simpa using ho
      have him' : i < m + 1 := by
        refine Nat.lt_of_not_le fun hmi => hall0 fun i' hi'm => ?_
        obtain ⟨_, hw⟩ := hch i o hoL hmi
        obtain ⟨n0, hwk⟩ := hw i' (by omega)
        cases n0 with
        | zero => cases hwk
        | succ n =>
          unfold waits at hwk
          rw [hoL] at hwk
          simp only [List.any_eq_true, Bool.and_eq_true, Bool.or_eq_true, beq_iff_eq] at hwk
          obtain ⟨e2, he2, hb2, h6⟩ := hwk
          have h7 := hafter e2 (by simpa using he2) hb2
          rcases h6 with h6 | h6
          · rw [← h6]; exact h7
          · exact waits_closed hcl n e2.on i' h6 h7
      by_cases him2 : i = m
      · -- the store
        subst him2
        have hoP : o = p := by rw [hoL] at hp; simpa using hp
        subst hoP
        unfold wpOp
        rw [ho]
        simp only
        have hwt : Region.wanted o (yielded ops a.tmps) = true := by unfold Region.wanted; rw [hpg]
        rw [if_pos hwt]
        refine .inl ?_
        have hb0 : base listed = s0 := if_neg (by
          have := hsel
          show ¬ listed.getD i false = true
          rw [show listed.getD i false = false from this]; decide)
        rw [hb0] at hi
        have hop2 : opR E (selSt (sel listed) cs 0 s0).fr s0.bx o = some (true, .put k off cells) := by
          rw [opR_congr (fr' := s0.fr) (evalO_slot fun t htm => selSt_other _ t cs 0 s0 fun cj hm2 e => ?_)]
          · exact hop
          · obtain ⟨j, hj⟩ := List.getElem?_of_mem hm2
            have hjL : j < (ops.toList.take i).length := by rw [← hlen]; exact (List.getElem?_eq_some_iff.1 hj).1
            have hdj := hcsd j _ cj (List.getElem?_eq_getElem hjL) hj
            exact hpr t htm _ (List.getElem_mem hjL) (by rw [hdj, e])
        have hsub : ∀ j ds, lookBx s0.bx j = some ds → lookBx (selSt (sel listed) cs 0 s0).bx j = some ds := fun j ds hj => hsub0 _ cs 0 s0 j ds (hnew j ds hj) hj
        have hdo := opR_sound (ac := a) (B := B) (w := w) (g := g) (bx := s0.bx) hE rfl hi.gok hi.own (hi.bxs.sub hsub) hi.hB hi.m1 (fun y => evalO_rep hi.fr hi.globG y) hop2
        refine eff_inv (dr := true) hi hdo hsub (fun h => by cases h) (s' := St.put ⟨(selSt (sel listed) cs 0 s0).fr, setBx (selSt (sel listed) cs 0 s0).bx k (over old off cells)⟩ o.dst (.tup [])) ⟨old, hsub k old hold, hbld, rfl⟩ fun g' a' w' h' _ => ?_
        rw [hpd] at h'
        have h' : Inv E B G0 w0 ⟨(selSt (sel listed) cs 0 s0).fr, setBx (selSt (sel listed) cs 0 s0).bx k (over old off cells)⟩ g' a' w' := h'
        rw [← hput] at h'
        have hcount : (((listed.setIfInBounds i true).toList).countP fun b => !b) ≤ fuel := by
          have h5 : ((listed.setIfInBounds i true).toList).countP (fun b => !b) + 1 = listed.toList.countP fun b => !b := by
            rw [Array.toList_setIfInBounds]
            have hil : i < listed.toList.length := by simpa using h4
            have e1 : listed.toList = listed.toList.take i ++ listed.toList[i] :: listed.toList.drop (i + 1) := by
              rw [List.getElem_cons_drop, List.take_append_drop]
            have e2 : listed.toList.set i true = listed.toList.take i ++ true :: listed.toList.drop (i + 1) := by
              rw [List.set_eq_take_append_cons_drop, if_pos hil]
            rw [e2]
            conv => rhs; rw [e1]
            have e3 : listed.toList[i] = false := by simpa using h0'
            rw [e3]
            simp only [List.countP_append, List.countP_cons]
            simp
            omega
          omega
        have hbl : base (listed.setIfInBounds i true) = s1 := by
          show (if (listed.setIfInBounds i true).getD i false = true then s1 else s0) = s1
          rw [if_pos]
          simp [h4]
        have hse : selSt (sel (listed.setIfInBounds i true)) cs 0 s1 = selSt (sel listed) cs 0 s1 := selSt_congr _ _ cs 0 s1 fun j _ hj => by
          show (listed.setIfInBounds i true).getD j false = listed.getD j false
          exact getD_set_ne false (by omega)
        refine ih (listed.setIfInBounds i true) g' a' w' (by simpa using hls) hcount (fun j hj => by rw [getD_set_ne false (by omega)]; exact htl j hj) ?_ (by rw [hbl, hse]; exact h')
        intro j oj hoj hjs e he hb
        have hjs : (listed.setIfInBounds i true).getD j false = true := hjs
        show (listed.setIfInBounds i true).getD e.on false = true
        by_cases ej : j = i
        · subst ej
          rw [hoL] at hoj
          simp only [Option.some.injEq] at hoj
          subst hoj
          rw [hpa e (by simpa using he)] at hb; cases hb
        · rw [getD_set_ne false (fun h => ej h.symm)] at hjs
          exact getD_set_true (hcl j oj hoj hjs e he hb)
      have him' : i < m := by omega
      obtain ⟨o2, ho2, hst2⟩ := stepO i him him'
      unfold wpOp
      rw [ho2]
      simp only
      rcases hst2 with ⟨hw, h⟩ | ⟨hw, h⟩
      · rw [if_pos hw]; exact .inl h
      · rw [if_neg (by rw [hw]; decide)]; exact h
  have hb00 : base (Array.replicate ops.size false) = s0 := if_neg (by simp [Array.getElem?_replicate]; split <;> decide)
  have hinit : Inv E B G0 w0 (selSt (sel (Array.replicate ops.size false)) cs 0 (base (Array.replicate ops.size false))) g a { w with drawn := w.drawn + 1 } := by
    rw [hb00]
    have e1 : ∀ (l : List Chg) (k : Nat), selSt (sel (Array.replicate ops.size false)) l k s0 = s0 := by
      intro l
      induction l with
      | nil => intro k; rfl
      | cons c l ih =>
        intro k
        unfold selSt
        have : sel (Array.replicate ops.size false) k = false := by
          show (Array.replicate ops.size false).getD k false = false
          simp [Array.getElem?_replicate]
          split <;> rfl
        rw [this, if_neg (by decide)]
        exact ih (k + 1)
    rw [e1]
    exact h.drew
  refine key ops.size (Array.replicate ops.size false) g a _ (by simp) ?_ (fun i _ => by simp [Array.getElem?_replicate]; split <;> rfl) ?_ hinit
  · exact Nat.le_trans List.countP_le_length (by simp)
  · intro j o hj hs
    have hs : (Array.replicate ops.size false).getD j false = true := hs
    simp only [Array.getD_eq_getD_getElem?, Array.getElem?_replicate] at hs
    exfalso
    split at hs <;> cases hs
theorem tailAt_le (ops : Array Oper) : tailAt ops.toList ≤ ops.size := by
  have h0 : ∀ l : List Oper, tail0 l ≤ l.length := by
    intro l
    induction l with
    | nil => exact Nat.le_refl 0
    | cons o l ih =>
      unfold tail0
      cases o.dst with
      | none => exact Nat.zero_le _
      | some d => exact Nat.succ_le_succ ih
  have h1 : ∀ (l : List Oper) (k : Nat), tailDn l k ≤ k := by
    intro l k
    induction k with
    | zero => exact Nat.le_refl 0
    | succ k ih =>
      unfold tailDn
      cases chainAt l k with
      | true => exact Nat.le_succ_of_le ih
      | false => exact Nat.le_refl _
  have := Nat.le_trans (h1 ops.toList (tail0 ops.toList)) (h0 ops.toList)
  exact Nat.le_trans this (by simp)
def HT (E : Env) : List Oper → St → St → Prop
  | [], s, s' => s' = s
  | o :: l, s, s' => ∃ v, opR E s.fr s.bx o = some (true, .val v) ∧ HT E l (s.put o.dst v) s'
theorem evH_rel {α : Type} {E : Env} : ∀ (l : List Oper) (s : St) (K : St → Option α) (r : α), evH E l s K = some r → ∃ s', HT E l s s' ∧ K s' = some r
  | [], s, K, r, h => ⟨s, rfl, h⟩
  | o :: l, s, K, r, h => by
    unfold evH at h
    split at h
    · rename_i c v ho
      rcases sel_some h with ⟨rfl, h⟩ | ⟨_, h⟩
      · obtain ⟨s', h1, h2⟩ := evH_rel l _ K r h
        exact ⟨s', ⟨v, ho, h1⟩, h2⟩
      · cases h
    · cases h
theorem hoistAt_spec {P : Program} {ops : Array Oper} {L : List Nat} {l : Nat} (h : hoistAt P ops L l = true) : ∃ o, ops[l]? = some o ∧ hoistOp P o = true ∧ (∀ e ∈ o.after, Region.binds .any e = true → e.on ∈ L) ∧
    ∀ (j : Nat) oj, ops[j]? = some oj → j ≠ l → (∀ e ∈ o.after, Region.binds .any e = true → e.on ≠ j) → (∀ e ∈ oj.after, Region.binds .any e = true → e.on ≠ l) → o.apart ops oj = true := by
  unfold hoistAt at h
  cases ho : ops[l]? with
  | none => rw [ho] at h; cases h
  | some o =>
    rw [ho] at h
    simp only [Bool.and_eq_true] at h
    obtain ⟨⟨h1, h2⟩, h3⟩ := h
    rw [List.all_eq_true] at h2 h3
    refine ⟨o, rfl, h1, fun e he hb => ?_, fun j oj hj hjl hn1 hn2 => ?_⟩
    · have := h2 e.on (by unfold bindsOf; exact List.mem_map.2 ⟨e, List.mem_filter.2 ⟨by simpa using he, hb⟩, rfl⟩)
      simpa using this
    · have h4 := h3 j (List.mem_range.2 (Array.getElem?_eq_some_iff.1 hj).1)
      rw [hj] at h4
      simp only [Bool.or_eq_true, beq_iff_eq, hjl, false_or, List.contains_iff_mem] at h4
      rcases h4 with (h4 | h4) | h4
      · obtain ⟨e, he, hb, heq⟩ := bindsOf_mem h4
        exact absurd heq (hn1 e (by simpa using he) hb)
      · obtain ⟨e, he, hb, heq⟩ := bindsOf_mem h4
        exact absurd heq (hn2 e (by simpa using he) hb)
      · exact h4
def HoistOk (P : Program) (ops : Array Oper) : List Nat → List Nat → Prop
  | _, [] => True
  | L, l :: r => l ∉ L ∧ hoistAt P ops L l = true ∧ HoistOk P ops (L ++ [l]) r
theorem hoistOk_app {P : Program} {ops : Array Oper} : ∀ (r L : List Nat) (l : Nat), HoistOk P ops L r → l ∉ L ++ r → hoistAt P ops (L ++ r) l = true → HoistOk P ops L (r ++ [l])
  | [], L, l, _, h1, h2 => by
    rw [List.append_nil] at h1 h2
    exact ⟨h1, h2, trivial⟩
  | x :: r, L, l, h, h1, h2 => by
    refine ⟨h.1, h.2.1, hoistOk_app r (L ++ [x]) l h.2.2 ?_ ?_⟩
    · rw [List.append_assoc]; exact h1
    · rw [List.append_assoc]; exact h2
theorem hoistG_spec {P : Program} {ops : Array Oper} : ∀ (r L : List Nat), HoistOk P ops [] L → (L ++ r).Nodup → HoistOk P ops [] (hoistG P ops r L) ∧ (hoistG P ops r L).Nodup ∧ ∀ x ∈ hoistG P ops r L, x ∈ L ++ r
  | [], L, h, hn => ⟨h, by simpa [hoistG] using hn, fun x hx => by simpa [hoistG] using hx⟩
  | l :: r, L, h, hn => by
    have hn' : (L ++ [l] ++ r).Nodup := by simpa using hn
    unfold hoistG
    cases hc : hoistAt P ops L l with
    | true =>
      rw [cond_true]
      have hl : l ∉ L := by
        rw [List.nodup_append] at hn
        intro hm
        exact hn.2.2 l hm l List.mem_cons_self rfl
      obtain ⟨q1, q2, q3⟩ := hoistG_spec r (L ++ [l]) (hoistOk_app L [] l h (by simpa using hl) (by simpa using hc)) hn'
      exact ⟨q1, q2, fun x hx => by simpa using q3 x hx⟩
    | false =>
      rw [cond_false]
      have hn2 : (L ++ r).Nodup := by
        rw [List.append_assoc] at hn'
        exact List.Sublist.nodup (List.Sublist.append_left (List.sublist_append_right [l] r) L) hn'
      obtain ⟨q1, q2, q3⟩ := hoistG_spec r L h hn2
      refine ⟨q1, q2, fun x hx => ?_⟩
      have := q3 x hx
      simp only [List.mem_append, List.mem_cons] at this ⊢
      rcases this with h | h
      · exact .inl h
      · exact .inr (.inr h)
theorem hoist_any (hE : EOk E) {ops : Array Oper} {Q : Exit → Act → World → Prop} (hns : Region.noSelect ops = true) (hQ : ∀ c a d v w, Q (.panic c) (a.put d v) w → Q (.panic c) a w) {g : Gh} {w w2 : World} {s' : St} {n : Nat} : ∀ (r L : List Nat) (s : St) (a : Act) (listed : Array Bool), HoistOk E.P ops L r → listed.size = ops.size →
    (∀ i, listed.getD i false = true ↔ i ∈ L) → (∀ l ∈ L, l < ops.size) → HT E (r.map fun i => ops.getD i default) s s' → Inv E B G0 w0 s g a w →
    (∀ (listed' : Array Bool) a', listed'.size = ops.size → (∀ i, listed'.getD i false = true ↔ i ∈ L ++ r) → Inv E B G0 w0 s' g a' w → wpAny E.P .any ops Q n listed' a' w2) → wpAny E.P .any ops Q (n + r.length) listed a w2
  | [], L, s, a, listed, hh, hls, hl, hlt, ht, hi, hk => by
    have e : s' = s := ht
    subst e
    exact hk listed a hls (fun i => by rw [hl, List.append_nil]) hi
  | l :: r, L, s, a, listed, hh, hls, hl, hlt, ht, hi, hk => by
    obtain ⟨h1, h2, h3⟩ := hh
    obtain ⟨o, ho, hop, hed, hap⟩ := hoistAt_spec h2
    rw [List.map_cons, opsD_some ho] at ht
    obtain ⟨v, hv, ht⟩ := ht
    have hdo := opR_sound (ac := a) (B := B) (w := w) (g := g) (bx := s.bx) hE rfl hi.gok hi.own hi.bxs hi.hB hi.m1 (fun y => evalO_rep hi.fr hi.globG y) hv
    obtain ⟨u, hrun, hrep⟩ := hdo
    have hst := hoist_still hop hrun
    have hg : o.guard = none := by
      unfold hoistOp at hop
      rw [Bool.and_eq_true, Bool.and_eq_true] at hop
      have := hop.1.2
      cases hg : o.guard with
      | none => rfl
      | some _ => rw [hg] at this; cases this
    have hll : l < ops.size := (Array.getElem?_eq_some_iff.1 ho).1
    have hlz : l < listed.size := by omega
    have hun : listed.getD l true = false := by
      have : ¬ listed.getD l false = true := fun q => h1 ((hl l).1 q)
      simp only [Array.getD_eq_getD_getElem?, Array.getElem?_eq_getElem hlz, Option.getD_some] at this ⊢
      simpa using this
    have hr : l ∈ Region.ready .any ops listed := mem_ready.2 ⟨hun, o, ho, fun e he hb => (hl _).2 (hed e he hb)⟩
    have hlen : n + (l :: r).length = (n + r.length) + 1 := rfl
    rw [hlen]
    refine wpAny_first ho (Region.noSelect_spec hns) (fun c a w => hQ c a o.dst u w) (n + r.length) listed a w2 (fun j oj hj hjl hjun hno => ?_) hr (.inl ⟨by unfold Region.wanted; rw [hg], hst⟩) ?_
    · refine hap j oj hj hjl (fun e he hb heq => ?_) hno
      have h5 := (hl e.on).2 (hed e he hb)
      rw [heq] at h5
      have hj4 : j < listed.size := by have := (Array.getElem?_eq_some_iff.1 hj).1; omega
      simp only [Array.getD_eq_getD_getElem?, Array.getElem?_eq_getElem hj4, Option.getD_some] at h5 hjun
      rw [h5] at hjun; cases hjun
    · refine hoist_any hE hns hQ r (L ++ [l]) (s.put o.dst v) _ _ h3 (by simpa using hls) (fun i => ?_) (fun x hx => ?_) ht (hi.put o.dst hrep) (fun listed' a' q1 q2 q3 => hk listed' a' q1 (fun i => by rw [q2]; simp) q3)
      · by_cases e : l = i
        · subst e
          simp [hlz]
        · rw [getD_set_ne false e, hl]
          simp [e]
          exact fun q => absurd q.symm e
      · simp only [List.mem_append, List.mem_singleton] at hx
        rcases hx with hx | rfl
        · exact hlt x hx
        · exact hll
def exOf : Ex → Exit
  | .norm => .normal
  | .exit id => .exit id
  | .ret => .ret
  | .pan v => .panic [{ v := (flatVal v).getD undef, recovered := false }]
def Leads (E : Env) (c : Code) (s : St) (e : Ex) (s' : St) : Prop := ∀ (B : Own) (G0 : Known) (w0 : World) (g : Gh) (a : Act) (w : World), Inv E B G0 w0 s g a w → ∀ Q : Exit → Act → World → Prop, (∀ g' a' w', Inv E B G0 w0 s' g' a' w' → Q (exOf e) a' w') → c.wp E.P Q a w
theorem reg_sound (hE : EOk E) {α : Type} {call : Caller α} (hc : CallOk E call) {id : Nat} {ops : Array Oper} {s : St} {K : Ex → St → Option α} {FB : St → Option α} {r : α} (h : evReg E call ops s K FB = some r) :
    (∃ e s', K e s' = some r ∧ Leads E (.region id ops true) s e s') ∨ (Region.noSelect ops = true ∧ subOk ops (keepL ops (hoistL E.P ops)) = true ∧ ∃ s1, HT E ((hoistL E.P ops).map fun i => ops.getD i default) s s1 ∧ FB s1 = some r) := by
  unfold evReg at h
  have hm : tailAt ops.toList ≤ ops.size := tailAt_le ops
  generalize tailAt ops.toList = m at h hm
  cases hold : (plainS s (ops.toList.take m) && (drawOk s.fr.length (ops.toList.take m) && chainFrom ops.toList m && drawStart (ops.toList.take m) s)) with
  | false =>
    rw [hold, cond_false] at h
    cases hlt : (plainS s (ops.toList.take m) && (drawOk s.fr.length (ops.toList.take m) && chainLFrom ops m && drawStart (ops.toList.take m) s)) with
    | false =>
      rw [hlt, cond_false] at h
      cases hea : (earlyB ops.toList (tail0 ops.toList) && drawOk s.fr.length (ops.toList.take (tail0 ops.toList)) && chainFrom ops.toList (tail0 ops.toList + 1)) with
      | false =>
        rw [hea, cond_false] at h
        obtain ⟨h1, h⟩ := cond_some h
        rw [Bool.and_eq_true] at h1
        obtain ⟨hns, hsok⟩ := h1
        obtain ⟨s1, hht, h⟩ := evH_rel _ s _ r h
        cases hcd : chainD s1.fr.length (subOps ops (keepL ops (hoistL E.P ops))).toList s1 with
        | false => rw [hcd, cond_false] at h; exact .inr ⟨hns, hsok, s1, hht, h⟩
        | true =>
        rw [hcd, cond_true] at h
        have hg := hoistG_spec (P := E.P) (ops := ops) (List.range ops.size) [] trivial (by simpa using List.nodup_range)
        have hHL : hoistG E.P ops (List.range ops.size) [] = hoistL E.P ops := rfl
        rw [hHL] at hg
        generalize hoistL E.P ops = L at h hht hcd hsok hg
        obtain ⟨hg1, hg2, hg3⟩ := hg
        have hLlt : ∀ l ∈ L, l < ops.size := fun l hl => by simpa using hg3 l hl
        have hp1 : (keepL ops L).Nodup := List.Sublist.nodup List.filter_sublist List.nodup_range
        have hp2 : ∀ i, i ∈ keepL ops L ↔ i < ops.size ∧ i ∉ L := fun i => by unfold keepL; rw [List.mem_filter, List.mem_range]; simp
        have hlenL : (keepL ops L).length + L.length = ops.size := by
          have hfl : (List.range ops.size).length = (keepL ops L).length + ((List.range ops.size).filter fun i => L.contains i).length := by
            unfold keepL
            have : ∀ l : List Nat, l.length = (l.filter fun i => !L.contains i).length + (l.filter fun i => L.contains i).length := by
              intro l
              induction l with
              | nil => rfl
              | cons x l ih =>
                rw [List.filter_cons, List.filter_cons, List.length_cons]
                cases L.contains x with
                | true => simp only [Bool.not_true, Bool.false_eq_true, if_false, if_true, List.length_cons]; omega
                | false => simp only [Bool.not_false, Bool.false_eq_true, if_false, if_true, List.length_cons]; omega
            exact this _
          have hperm : ((List.range ops.size).filter fun i => L.contains i).length = L.length := by
            refine List.Perm.length_eq ?_
            refine (List.perm_ext_iff_of_nodup (List.Sublist.nodup List.filter_sublist List.nodup_range) hg2).2 fun x => ?_
            rw [List.mem_filter, List.mem_range]
            simp only [List.contains_iff_mem]
            exact ⟨fun q => q.2, fun q => ⟨hLlt x q, q⟩⟩
          rw [List.length_range] at hfl
          omega
        generalize keepL ops L = p at h hcd hsok hp1 hp2 hlenL
        have hss : (subOps ops p).size = p.length := sub_size p
        unfold chainD at hcd
        have hm2 : tailAt (subOps ops p).toList ≤ (subOps ops p).size := tailAt_le _
        generalize tailAt (subOps ops p).toList = m2 at h hcd hm2
        rw [Bool.and_eq_true, Bool.and_eq_true, Bool.and_eq_true] at hcd
        replace hcd := And.intro (And.intro hcd.1.1.2 hcd.1.2) hcd.2
        have hch0 : ∀ (j : Nat) o, (subOps ops p).toList[j]? = some o → m2 ≤ j → (∀ e ∈ o.after.toList, Region.binds .any e = true → e.on < j) ∧ ∀ i, i < j → (∃ n, waits (subOps ops p).toList n j i = true) ∨ (fun _ : Nat => false) i = true := fun j o ho hj => ⟨(chain_spec hcd.1.2 j o ho hj).1, fun i hi => .inl ((chain_spec hcd.1.2 j o ho hj).2 i hi)⟩
        rcases evOps_rel hc ((subOps ops p).toList.take m2) s1 _ r h with ⟨s2, ht, hs⟩ | ⟨hb, _⟩
        rotate_left
        · cases hb
        obtain ⟨h3, h4⟩ := cond_some hs
        have hl : ((subOps ops p).toList.drop m2).length = (subOps ops p).size - m2 := by simp
        rcases evOps_rel hc ((subOps ops p).toList.drop m2) s2 _ r h4 with ⟨s3, ht2, hs2⟩ | ⟨_, v, s3, ht2, hs2⟩
        · refine .inl ⟨.norm, s3, hs2, fun B G0 w0 g a w hi Q hk => ?_⟩
          refine Code.wp_mono (Q := fun e a w => match e with | .normal => Q .normal a w | _ => False) (fun e a w q => by cases e <;> first | exact q | exact q.elim) ?_
          refine wp_region_any hE.mixed ?_
          have hfu : ops.size = p.length + L.length := by omega
          have hz : wpAny E.P .any ops (fun e a w => match e with | .normal => Q .normal a w | _ => False) (p.length + L.length) (Array.replicate ops.size false) a { w with drawn := w.drawn + 1 } := by
            refine hoist_any hE hns (fun c a d v w q => q.elim) (n := p.length) (w := w) L [] s a _ hg1 (by simp) (fun i => ?_) (fun l hl => nomatch hl) hht hi fun listed' a' q1 q2 q3 => ?_
            · simp only [Array.getD_eq_getD_getElem?, Array.getElem?_replicate, List.not_mem_nil, iff_false]
              split <;> simp
            · refine sub_any hp1 (fun i hi => ((hp2 i).1 hi).1) hsok p.length listed' (Array.replicate p.length false) a' _ q1 (by simp) (fun i hi hip => ?_) (fun k hk' d => ?_) ?_
              · refine (q2 i).2 ?_
                rw [List.nil_append]
                exact Classical.byContradiction fun hn => hip ((hp2 i).2 ⟨hi, hn⟩)
              · have h5 : p[k] < listed'.size := by rw [q1]; exact ((hp2 _).1 (List.getElem_mem hk')).1
                have h6 : ¬ listed'.getD p[k] false = true := by rw [q2, List.nil_append]; exact ((hp2 _).1 (List.getElem_mem hk')).2
                simp only [Array.getD_eq_getD_getElem?, Array.getElem?_eq_getElem h5, Option.getD_some, Array.getElem?_replicate, hk', if_true] at h6 ⊢
                simpa using h6
              · have hq := drawn_any hE (Q := fun e a w => match e with | .normal => Q .normal a w | _ => False) hcd.1.1 (late := fun _ => false) hch0 (fun l hl => by cases hl) hcd.2 h3 ht hm2 q3 fun g' a' w' hi' => by
                  have := trace_wp hE (Q := fun e a w => match e with | .normal => Q .normal a w | _ => False) ((subOps ops p).toList.drop m2) m2 s2 s3 g' a' w' rfl ht2 hi' hk
                  rw [hl] at this
                  exact this
                rw [hss] at hq
                exact hq
          rw [← hfu] at hz
          exact hz
        · cases hs2
      | true =>
        rw [hea, cond_true] at h
        have h1 := hea
        rw [Bool.and_eq_true, Bool.and_eq_true] at h1
        generalize tail0 ops.toList = m2 at h h1
        split at h
        · rename_i p hp
          split at h
          · rename_i c k off cs hop
            rcases sel_some h with ⟨rfl, h⟩ | ⟨_, h⟩
            · split at h
              · rename_i old hlook
                obtain ⟨h5, h⟩ := cond_some h
                rw [Bool.and_eq_true, Bool.and_eq_true] at h5
                rcases evOps_rel hc (ops.toList.take m2) _ _ r h with ⟨s', ht, hs⟩ | ⟨hb, _⟩
                rotate_left
                · cases hb
                obtain ⟨h3, h4⟩ := cond_some hs
                rw [Bool.and_eq_true] at h3
                have hl : (ops.toList.drop (m2 + 1)).length = ops.size - (m2 + 1) := by simp
                have hm2 : m2 + 1 ≤ ops.size := by
                  have := (List.getElem?_eq_some_iff.1 hp).1
                  rw [Array.length_toList] at this
                  omega
                have hbl : isBld (over old off cs) = true → isBld old = true := fun hq => by
                  have := h5.1.1
                  rw [hq] at this
                  exact this
                have hch0 : ∀ (j : Nat) o, ops.toList[j]? = some o → m2 + 1 ≤ j → (∀ e ∈ o.after.toList, Region.binds .any e = true → e.on < j) ∧ ∀ i, i < j → ∃ n, waits ops.toList n j i = true := fun j o ho hj => chain_spec h1.2 j o ho hj
                rcases evOps_rel hc (ops.toList.drop (m2 + 1)) s' _ r h4 with ⟨s'', ht2, hs2⟩ | ⟨_, v, s'', ht2, hs2⟩
                · refine .inl ⟨.norm, s'', hs2, fun B G0 w0 g a w hi Q hk => drawn_early hE h1.1.2 hp h1.1.1 hop hlook hbl rfl hch0 h5.1.2 h5.2 h3.1 h3.2 ht hm2 hi fun g' a' w' hi' => ?_⟩
                  have := trace_wp hE (Q := Q) (ops.toList.drop (m2 + 1)) (m2 + 1) s' s'' g' a' w' rfl ht2 hi' hk
                  rw [hl] at this
                  exact this
                · refine .inl ⟨.pan v, s'', hs2, fun B G0 w0 g a w hi Q hk => drawn_early hE h1.1.2 hp h1.1.1 hop hlook hbl rfl hch0 h5.1.2 h5.2 h3.1 h3.2 ht hm2 hi fun g' a' w' hi' => ?_⟩
                  have := traceP_wp hE (Q := Q) (ops.toList.drop (m2 + 1)) (m2 + 1) s' s'' g' a' w' rfl ht2 hi' (fun g2 a2 w2 u hi2 hu => by
                    have := hk g2 a2 w2 hi2
                    simp only [exOf, hu, Option.getD_some] at this
                    exact this)
                  rw [hl] at this
                  exact this
              · cases h
            · cases h
          · cases h
        · cases h
    | true =>
    rw [hlt, cond_true] at h
    have h1 := (Bool.and_eq_true_iff.1 hlt).2
    have h2 := h
    rw [Bool.and_eq_true, Bool.and_eq_true] at h1
    rcases evOps_rel hc (ops.toList.take m) s _ r h2 with ⟨s', ht, hs⟩ | ⟨hb, _⟩
    rotate_left
    · cases hb
    obtain ⟨h3, h4⟩ := cond_some hs
    have hl : (ops.toList.drop m).length = ops.size - m := by simp
    obtain ⟨hns, hcl⟩ := by have := h1.1.2; unfold chainLFrom at this; rw [Bool.and_eq_true] at this; exact this
    rcases evOps_rel hc (ops.toList.drop m) s' _ r h4 with ⟨s'', ht2, hs2⟩ | ⟨_, v, s'', ht2, hs2⟩
    · refine .inl ⟨.norm, s'', hs2, fun B G0 w0 g a w hi Q hk => ?_⟩
      refine Code.wp_mono (Q := fun e a w => match e with | .normal => Q .normal a w | _ => False) (fun e a w q => by cases e <;> first | exact q | exact q.elim) ?_
      refine drawn_wp hE h1.1.1 (late := lateM ops m) (chainL_spec hcl) (fun l hl => ?_) h1.2 h3 ht hm hi fun g' a' w' hi' => ?_
      · unfold lateM at hl
        rw [Bool.and_eq_true] at hl
        exact ⟨nb_lt hl.1, hl.2, hns, fun c a d v w q => q.elim⟩
      · have := trace_wp hE (Q := fun e a w => match e with | .normal => Q .normal a w | _ => False) (ops.toList.drop m) m s' s'' g' a' w' rfl ht2 hi' hk
        rw [hl] at this
        exact this
    · cases hs2
  | true =>
  rw [hold, cond_true] at h
  have h1 := (Bool.and_eq_true_iff.1 hold).2
  have h2 := h
  rw [Bool.and_eq_true, Bool.and_eq_true] at h1
  have hch0 : ∀ (j : Nat) o, ops.toList[j]? = some o → m ≤ j → (∀ e ∈ o.after.toList, Region.binds .any e = true → e.on < j) ∧ ∀ i, i < j → (∃ n, waits ops.toList n j i = true) ∨ (fun _ : Nat => false) i = true := fun j o ho hj => ⟨(chain_spec h1.1.2 j o ho hj).1, fun i hi => .inl ((chain_spec h1.1.2 j o ho hj).2 i hi)⟩
  rcases evOps_rel hc (ops.toList.take m) s _ r h2 with ⟨s', ht, hs⟩ | ⟨hb, _⟩
  rotate_left
  · cases hb
  obtain ⟨h3, h4⟩ := cond_some hs
  have hl : (ops.toList.drop m).length = ops.size - m := by simp
  rcases evOps_rel hc (ops.toList.drop m) s' _ r h4 with ⟨s'', ht2, hs2⟩ | ⟨_, v, s'', ht2, hs2⟩
  · refine .inl ⟨.norm, s'', hs2, fun B G0 w0 g a w hi Q hk => drawn_wp hE h1.1.1 (late := fun _ => false) hch0 (fun l hl => by cases hl) h1.2 h3 ht hm hi fun g' a' w' hi' => ?_⟩
    have := trace_wp hE (Q := Q) (ops.toList.drop m) m s' s'' g' a' w' rfl ht2 hi' hk
    rw [hl] at this
    exact this
  · refine .inl ⟨.pan v, s'', hs2, fun B G0 w0 g a w hi Q hk => drawn_wp hE h1.1.1 (late := fun _ => false) hch0 (fun l hl => by cases hl) h1.2 h3 ht hm hi fun g' a' w' hi' => ?_⟩
    have := traceP_wp hE (Q := Q) (ops.toList.drop m) m s' s'' g' a' w' rfl ht2 hi' (fun g2 a2 w2 u hi2 hu => by
      have := hk g2 a2 w2 hi2
      simp only [exOf, hu, Option.getD_some] at this
      exact this)
    rw [hl] at this
    exact this
theorem ev_sound (hE : EOk E) {α : Type} {call : Caller α} (hc : CallOk E call) (tot : Rd) (ho : tot.ord = false) (fuel : Nat) : ∀ (c : Code) (s : St) (K : Ex → St → Option α) (r : α), ev E call tot fuel c s K = some r → ∃ e s', K e s' = some r ∧ Leads E c s e s'
  | .skip, s, K, r, h => ⟨.norm, s, h, fun B G0 w0 g a w hi Q hk => wp_skip (hk g a w hi)⟩
  | .region id ops false, s, K, r, h => by
    unfold ev at h
    rcases evOps_rel hc ops.toList s _ r h with ⟨s', ht, hs⟩ | ⟨_, v, s', ht, hs⟩
    · refine ⟨.norm, s', hs, fun B G0 w0 g a w hi Q hk => ?_⟩
      have := trace_wp hE (Q := Q) ops.toList 0 s s' g a w (by simp) ht hi hk
      refine wp_region ?_
      rw [List.range_eq_range']
      simpa using this
    · refine ⟨.pan v, s', hs, fun B G0 w0 g a w hi Q hk => ?_⟩
      have := traceP_wp hE (Q := Q) ops.toList 0 s s' g a w (by simp) ht hi (fun g' a' w' u hi' hu => by
        have := hk g' a' w' hi'
        simp only [exOf, hu, Option.getD_some] at this
        exact this)
      refine wp_region ?_
      rw [List.range_eq_range']
      simpa using this
  | .region id ops true, s, K, r, h => by
    unfold ev at h
    rcases reg_sound hE hc h with h | ⟨_, _, _, _, h⟩
    · exact h
    · rw [ho] at h; cases h
  | .seq x y, s, K, r, h => by
    unfold ev at h
    obtain ⟨e, s1, he, hl⟩ := ev_sound hE hc tot ho fuel x s _ r h
    cases e with
    | norm =>
      obtain ⟨e2, s2, he2, hl2⟩ := ev_sound hE hc tot ho fuel y s1 K r he
      exact ⟨e2, s2, he2, fun B G0 w0 g a w hi Q hk => wp_seq (hl B G0 w0 g a w hi _ fun g' a' w' hi' => hl2 B G0 w0 g' a' w' hi' Q hk)⟩
    | exit id => exact ⟨.exit id, s1, he, fun B G0 w0 g a w hi Q hk => wp_seq (hl B G0 w0 g a w hi _ fun g' a' w' hi' => hk g' a' w' hi')⟩
    | ret => exact ⟨.ret, s1, he, fun B G0 w0 g a w hi Q hk => wp_seq (hl B G0 w0 g a w hi _ fun g' a' w' hi' => hk g' a' w' hi')⟩
    | pan v => exact ⟨.pan v, s1, he, fun B G0 w0 g a w hi Q hk => wp_seq (hl B G0 w0 g a w hi _ fun g' a' w' hi' => hk g' a' w' hi')⟩
  | .cond c x y, s, K, r, h => by
    unfold ev at h
    split at h
    · rename_i t ht
      have hv : ∀ {B G0 w0 g a w}, Inv E B G0 w0 s g a w → a.eval c = .bool t := fun {B G0 w0 g a w} hi => by
        have := evalO_rep hi.fr hi.globG c
        rw [ht, trep_bool] at this
        exact this
      rcases sel_some h with ⟨rfl, h⟩ | ⟨rfl, h⟩
      · obtain ⟨e, s1, he, hl⟩ := ev_sound hE hc tot ho fuel x s K r h
        exact ⟨e, s1, he, fun B G0 w0 g a w hi Q hk => wp_cond (hv hi) (hl B G0 w0 g a w hi Q hk)⟩
      · obtain ⟨e, s1, he, hl⟩ := ev_sound hE hc tot ho fuel y s K r h
        exact ⟨e, s1, he, fun B G0 w0 g a w hi Q hk => wp_cond (hv hi) (hl B G0 w0 g a w hi Q hk)⟩
    · cases h
  | .block id b, s, K, r, h => by
    unfold ev at h
    obtain ⟨e, s1, he, hl⟩ := ev_sound hE hc tot ho fuel b s _ r h
    cases e with
    | norm => exact ⟨.norm, s1, he, fun B G0 w0 g a w hi Q hk => wp_block (hl B G0 w0 g a w hi _ fun g' a' w' hi' => hk g' a' w' hi')⟩
    | ret => exact ⟨.ret, s1, he, fun B G0 w0 g a w hi Q hk => wp_block (hl B G0 w0 g a w hi _ fun g' a' w' hi' => hk g' a' w' hi')⟩
    | pan v => exact ⟨.pan v, s1, he, fun B G0 w0 g a w hi Q hk => wp_block (hl B G0 w0 g a w hi _ fun g' a' w' hi' => hk g' a' w' hi')⟩
    | exit i =>
      have he : (bif i == id then K .norm s1 else K (.exit i) s1) = some r := he
      by_cases hid : i = id
      · have : (i == id) = true := by simpa using hid
        rw [this] at he
        refine ⟨.norm, s1, he, fun B G0 w0 g a w hi Q hk => wp_block (hl B G0 w0 g a w hi _ fun g' a' w' hi' => ?_)⟩
        show (if i = id then Q .normal a' w' else Q (.exit i) a' w')
        rw [if_pos hid]
        exact hk g' a' w' hi'
      · have : (i == id) = false := by simpa using hid
        rw [this] at he
        refine ⟨.exit i, s1, he, fun B G0 w0 g a w hi Q hk => wp_block (hl B G0 w0 g a w hi _ fun g' a' w' hi' => ?_)⟩
        show (if i = id then Q .normal a' w' else Q (.exit i) a' w')
        rw [if_neg hid]
        exact hk g' a' w' hi'
  | .loop b, s, K, r, h => by
    unfold ev at h
    generalize maskOf tot.tot tot.unc s.fr.length b = mask at h
    have key : ∀ (n : Nat) (s : St), loopK b (fun s K => ev E call tot fuel b s K) mask K n s = some r → ∃ e s', K e s' = some r ∧ ∀ (B : Own) (G0 : Known) (w0 : World) (g : Gh) (a : Act) (w : World), Inv E B G0 w0 s g a w → ∀ Q : Exit → Act → World → Prop, (∀ g' a' w', Inv E B G0 w0 s' g' a' w' → Q (exOf e) a' w') → Code.rounds E.P b Q n a w := by
      intro n
      induction n with
      | zero => intro s h; cases h
      | succ n ih =>
        intro s h
        unfold loopK at h
        simp only [pf_eq] at h
        obtain ⟨e, s1, he, hl⟩ := ev_sound hE hc tot ho fuel b _ _ r h
        cases e with
        | norm =>
          obtain ⟨e2, s2, he2, hl2⟩ := ih _ he
          refine ⟨e2, s2, he2, fun B G0 w0 g a w hi Q hk => ?_⟩
          rw [rounds_succ]
          refine hl B G0 w0 g a w hi _ fun g' a' w' hi' => ?_
          obtain ⟨g1, hi1⟩ := hi'.head mask
          exact hl2 B G0 w0 g1 a' w' hi1 Q hk
        | exit id =>
          refine ⟨.exit id, s1, he, fun B G0 w0 g a w hi Q hk => ?_⟩
          rw [rounds_succ]
          exact hl B G0 w0 g a w hi _ fun g' a' w' hi' => hk g' a' w' hi'
        | ret =>
          refine ⟨.ret, s1, he, fun B G0 w0 g a w hi Q hk => ?_⟩
          rw [rounds_succ]
          exact hl B G0 w0 g a w hi _ fun g' a' w' hi' => hk g' a' w' hi'
        | pan v =>
          refine ⟨.pan v, s1, he, fun B G0 w0 g a w hi Q hk => ?_⟩
          rw [rounds_succ]
          exact hl B G0 w0 g a w hi _ fun g' a' w' hi' => hk g' a' w' hi'
    obtain ⟨e, s', he, hl⟩ := key fuel _ h
    refine ⟨e, s', he, fun B G0 w0 g a w hi Q hk => wp_loop_rounds fuel ?_⟩
    obtain ⟨g1, hi1⟩ := hi.head mask
    exact hl B G0 w0 g1 a w hi1 Q hk
  | .exit id, s, K, r, h => ⟨.exit id, s, h, fun B G0 w0 g a w hi Q hk => wp_exit (hk g a w hi)⟩
  | .label l, s, K, r, h => ⟨.norm, s, h, fun B G0 w0 g a w hi Q hk => wp_label (hk g a w hi)⟩
  | .ret, s, K, r, h => ⟨.ret, s, h, fun B G0 w0 g a w hi Q hk => wp_ret (hk g a w hi)⟩
  | .rangeFunc .., s, K, r, h => by unfold ev at h; cases h
  | .scope _, s, K, r, h => by unfold ev at h; cases h
  | .goto _, s, K, r, h => by unfold ev at h; cases h
  | .refuse _, s, K, r, h => by unfold ev at h; cases h
theorem hoist_facts (P : Program) (ops : Array Oper) : HoistOk P ops [] (hoistL P ops) ∧ (∀ l ∈ hoistL P ops, l < ops.size) ∧ (keepL ops (hoistL P ops)).Nodup ∧ (∀ i, i ∈ keepL ops (hoistL P ops) ↔ i < ops.size ∧ i ∉ hoistL P ops) ∧ (keepL ops (hoistL P ops)).length + (hoistL P ops).length = ops.size := by
  have hg := hoistG_spec (P := P) (ops := ops) (List.range ops.size) [] trivial (by simpa using List.nodup_range)
  have hHL : hoistG P ops (List.range ops.size) [] = hoistL P ops := rfl
  rw [hHL] at hg
  generalize hoistL P ops = L at hg ⊢
  obtain ⟨hg1, hg2, hg3⟩ := hg
  have hLlt : ∀ l ∈ L, l < ops.size := fun l hl => by simpa using hg3 l hl
  refine ⟨hg1, hLlt, List.Sublist.nodup List.filter_sublist List.nodup_range, fun i => by unfold keepL; rw [List.mem_filter, List.mem_range]; simp, ?_⟩
  have hfl : (List.range ops.size).length = (keepL ops L).length + ((List.range ops.size).filter fun i => L.contains i).length := by
    unfold keepL
    have : ∀ l : List Nat, l.length = (l.filter fun i => !L.contains i).length + (l.filter fun i => L.contains i).length := by
      intro l
      induction l with
      | nil => rfl
      | cons x l ih =>
        rw [List.filter_cons, List.filter_cons, List.length_cons]
        cases L.contains x with
        | true => simp only [Bool.not_true, Bool.false_eq_true, if_false, if_true, List.length_cons]; omega
        | false => simp only [Bool.not_false, Bool.false_eq_true, if_false, if_true, List.length_cons]; omega
    exact this _
  have hperm : ((List.range ops.size).filter fun i => L.contains i).length = L.length := by
    refine List.Perm.length_eq ?_
    refine (List.perm_ext_iff_of_nodup (List.Sublist.nodup List.filter_sublist List.nodup_range) hg2).2 fun x => ?_
    rw [List.mem_filter, List.mem_range]
    simp only [List.contains_iff_mem]
    exact ⟨fun q => q.2, fun q => ⟨hLlt x q, q⟩⟩
  rw [List.length_range] at hfl
  omega
theorem hoist_sub (hE : EOk E) {ops : Array Oper} {Q : Exit → Act → World → Prop} (hns : Region.noSelect ops = true) (hsok : subOk ops (keepL ops (hoistL E.P ops)) = true) (hQ : ∀ c a d v w, Q (.panic c) (a.put d v) w → Q (.panic c) a w) {g : Gh} {a : Act} {w w2 : World} {s s1 : St}
    (hht : HT E ((hoistL E.P ops).map fun i => ops.getD i default) s s1) (hi : Inv E B G0 w0 s g a w)
    (hk : ∀ a', Inv E B G0 w0 s1 g a' w → wpAny E.P .any (subOps ops (keepL ops (hoistL E.P ops))) Q (subOps ops (keepL ops (hoistL E.P ops))).size (Array.replicate (subOps ops (keepL ops (hoistL E.P ops))).size false) a' w2) :
    wpAny E.P .any ops Q ops.size (Array.replicate ops.size false) a w2 := by
  obtain ⟨hg1, hLlt, hp1, hp2, hlen⟩ := hoist_facts E.P ops
  rw [sub_size] at hk
  generalize hoistL E.P ops = L at *
  generalize keepL ops L = p at *
  have hfu : ops.size = p.length + L.length := by omega
  have hz : wpAny E.P .any ops Q (p.length + L.length) (Array.replicate ops.size false) a w2 := by
    refine hoist_any hE hns hQ (n := p.length) (w := w) L [] s a _ hg1 (by simp) (fun i => ?_) (fun l hl => nomatch hl) hht hi fun listed' a' q1 q2 q3 => ?_
    · simp only [Array.getD_eq_getD_getElem?, Array.getElem?_replicate, List.not_mem_nil, iff_false]
      split <;> simp
    · refine sub_any hp1 (fun i hi => ((hp2 i).1 hi).1) hsok p.length listed' (Array.replicate p.length false) a' _ q1 (by simp) (fun i hi hip => ?_) (fun k hk' d => ?_) (hk a' q3)
      · refine (q2 i).2 ?_
        rw [List.nil_append]
        exact Classical.byContradiction fun hn => hip ((hp2 i).2 ⟨hi, hn⟩)
      · have h5 : p[k] < listed'.size := by rw [q1]; exact ((hp2 _).1 (List.getElem_mem hk')).1
        have h6 : ¬ listed'.getD p[k] false = true := by rw [q2, List.nil_append]; exact ((hp2 _).1 (List.getElem_mem hk')).2
        simp only [Array.getD_eq_getD_getElem?, Array.getElem?_eq_getElem h5, Option.getD_some, Array.getElem?_replicate, hk', if_true] at h6 ⊢
        simpa using h6
  rw [← hfu] at hz
  exact hz
theorem both_some {α : Type} {a b : Option α} {r : α} (h : both a b = some r) : a = some r ∧ b = some r := by
  unfold both at h
  by_cases e : a = b
  · rw [if_pos e] at h
    exact ⟨h, e ▸ h⟩
  · rw [if_neg e] at h; cases h
theorem both_self {α : Type} (a : Option α) : both a a = a := by unfold both; rw [if_pos rfl]
theorem allK_some {α : Type} {f : Nat → Option α} {r : α} : ∀ {l : List Nat}, allK f l = some r → ∀ i ∈ l, f i = some r
  | [], h, i, hi => nomatch hi
  | [x], h, i, hi => by
    rcases List.mem_singleton.1 hi with rfl
    exact h
  | x :: y :: l, h, i, hi => by
    have h : both (f x) (allK f (y :: l)) = some r := h
    obtain ⟨h1, h2⟩ := both_some h
    rcases List.mem_cons.1 hi with rfl | hi
    · exact h1
    · exact allK_some h2 i hi
theorem ready_L {ops : Array Oper} {listed : Array Bool} {L : List Nat} (hls : listed.size = ops.size) (hl : ∀ i, listed.getD i false = true ↔ i ∈ L) (i : Nat) : i ∈ Region.ready .any ops listed ↔ i ∈ readyL ops.toList L := by
  unfold readyL
  rw [mem_ready, List.mem_filter, List.mem_range, Array.length_toList]
  constructor
  · rintro ⟨hu, o, ho, hal⟩
    have hil : i < ops.size := (Array.getElem?_eq_some_iff.1 ho).1
    have h4 : i < listed.size := by omega
    refine ⟨hil, ?_⟩
    have hn : i ∉ L := fun q => by
      have := (hl i).2 q
      simp only [Array.getD_eq_getD_getElem?, Array.getElem?_eq_getElem h4, Option.getD_some] at hu this
      rw [hu] at this; cases this
    have ho' : ops.toList[i]? = some o := by simpa using ho
    rw [ho', Bool.and_eq_true]
    refine ⟨by simpa using hn, ?_⟩
    simp only [List.all_eq_true, List.contains_iff_mem]
    intro x hx
    obtain ⟨e, he, hb, rfl⟩ := bindsOf_mem hx
    exact (hl _).1 (hal e (by simpa using he) hb)
  · rintro ⟨hil, h⟩
    have h4 : i < listed.size := by omega
    have ho : ops[i]? = some (ops[i]'hil) := by simp [hil]
    have ho' : ops.toList[i]? = some (ops[i]'hil) := by simp [hil]
    rw [ho', Bool.and_eq_true] at h
    simp only [List.all_eq_true, List.contains_iff_mem] at h
    have hn : i ∉ L := by simpa using h.1
    refine ⟨?_, _, ho, fun e he hb => (hl _).2 (h.2 e.on (by unfold bindsOf; exact List.mem_map.2 ⟨e, List.mem_filter.2 ⟨by simpa using he, hb⟩, rfl⟩))⟩
    have : ¬ listed.getD i false = true := fun q => hn ((hl i).1 q)
    simp only [Array.getD_eq_getD_getElem?, Array.getElem?_eq_getElem h4, Option.getD_some] at this ⊢
    simpa using this
theorem ord_sound (hE : EOk E) {α : Type} {call : Caller α} (hc : CallOk E call) {ops : Array Oper} {Q : Exit → Act → World → Prop} {K : St → Option α} {r : α} : ∀ (n : Nat) (L : List Nat) (s : St) (listed : Array Bool) (g : Gh) (a : Act) (w : World), listed.size = ops.size →
    (∀ i, listed.getD i false = true ↔ i ∈ L) → (listed.toList.countP fun b => !b) ≤ n → evOrd E call ops.toList K (n + 1) L s = some r → Inv E B G0 w0 s g a w →
    (∀ s' g' a' w', K s' = some r → Inv E B G0 w0 s' g' a' w' → Q .normal a' w') → wpAny E.P .any ops Q n listed a w := by
  have hnil : ∀ (n : Nat) (L : List Nat) (s : St) (listed : Array Bool), listed.size = ops.size → (∀ i, listed.getD i false = true ↔ i ∈ L) → evOrd E call ops.toList K (n + 1) L s = some r → Region.ready .any ops listed = [] → K s = some r := by
    intro n L s listed hls hl h hr
    unfold evOrd at h
    have : readyL ops.toList L = [] := List.eq_nil_iff_forall_not_mem.2 fun i hi => by
      have := (ready_L hls hl i).2 hi
      rw [hr] at this; cases this
    rw [this] at h
    exact h
  intro n
  induction n with
  | zero =>
    intro L s listed g a w hls hl hc0 h hi hk
    have hr : Region.ready .any ops listed = [] := List.eq_nil_iff_forall_not_mem.2 fun i hi => by
      obtain ⟨hu, o, ho, _⟩ := mem_ready.1 hi
      have hil : i < ops.size := (Array.getElem?_eq_some_iff.1 ho).1
      have h4 : i < listed.size := by omega
      have h5 := List.countP_eq_zero.1 (Nat.le_zero.1 hc0) listed[i] (by rw [Array.mem_toList_iff]; exact Array.getElem_mem h4)
      simp only [Array.getD_eq_getD_getElem?, Array.getElem?_eq_getElem h4, Option.getD_some] at hu
      rw [hu] at h5
      exact h5 rfl
    exact ⟨hr, hk s g a w (hnil 0 L s listed hls hl h hr) hi⟩
  | succ n ih =>
    intro L s listed g a w hls hl hcn h hi hk
    refine ⟨fun hr => hk s g a w (hnil (n + 1) L s listed hls hl h hr) hi, fun i him => ?_⟩
    have hir := (ready_L hls hl i).1 him
    unfold evOrd at h
    split at h
    · rename_i heq; rw [heq] at hir; cases hir
    · rename_i j l heq
      rw [heq] at hir
      have h1 := allK_some h i hir
      obtain ⟨hu, o, ho, _⟩ := mem_ready.1 him
      have hil : i < ops.size := (Array.getElem?_eq_some_iff.1 ho).1
      have h4 : i < listed.size := by omega
      have ho' : ops.toList[i]? = some o := by simpa using ho
      simp only [ho'] at h1
      rcases evOps_rel hc [o] s _ r h1 with ⟨s', ht, hs⟩ | ⟨_, v, s', _, hs⟩
      rotate_left
      · cases hs
      have hlist : ∀ x, (listed.setIfInBounds i true).getD x false = true ↔ x ∈ i :: L := fun x => by
        by_cases e : i = x
        · subst e
          simp [h4]
        · rw [getD_set_ne false e, hl, List.mem_cons]
          exact ⟨.inr, fun q => q.resolve_left fun q => e q.symm⟩
      have hcnt : ((listed.setIfInBounds i true).toList.countP fun b => !b) ≤ n := by
        have hu' : listed[i] = false := by simpa only [Array.getD_eq_getD_getElem?, Array.getElem?_eq_getElem h4, Option.getD_some] using hu
        rw [Array.toList_setIfInBounds, List.countP_set (by simpa using h4)]
        simp only [Array.getElem_toList, hu', Bool.not_false, if_true, Bool.not_true, Bool.false_eq_true, if_false, Nat.add_zero]
        omega
      have next : ∀ g' a' w', Inv E B G0 w0 s' g' a' w' → wpAny E.P .any ops Q n (listed.setIfInBounds i true) a' w' := fun g' a' w' hi' =>
        ih (i :: L) s' _ g' a' w' (by simpa using hls) hlist hcnt hs hi' hk
      cases ht with
      | cons hst ht =>
        cases ht
        unfold wpOp
        rw [ho]
        simp only
        rcases hst with ⟨hw, eff, hor, _, hr⟩ | ⟨hw, rfl⟩
        · rw [if_pos (wantV_sound hi.fr hw)]
          refine .inl ?_
          have hdo := opR_sound (ac := a) (B := B) (w := w) (g := g) hE rfl hi.gok hi.own hi.bxs hi.hB hi.m1 (fun y => evalO_rep hi.fr hi.globG y) hor
          exact eff_inv hi hdo (fun _ _ h => h) (fun _ => rfl) hr fun g' a' w' h' _ => next g' a' w' h'
        · rw [if_neg (by rw [wantV_sound hi.fr hw]; decide)]
          exact next g _ w (hi.put o.dst (v := .tup []) (u := undef) ⟨[], rfl, .nil⟩)
theorem ev_cps (hE : EOk E) {α : Type} {call : Caller α} (hc : CallOk E call) (tot : Rd) (fuel : Nat) : ∀ (c : Code) (s : St) (K : Ex → St → Option α) (r : α), ev E call tot fuel c s K = some r → ∀ (g : Gh) (a : Act) (w : World), Inv E B G0 w0 s g a w →
    ∀ Q : Exit → Act → World → Prop, (∀ e s' g' a' w', K e s' = some r → Inv E B G0 w0 s' g' a' w' → Q (exOf e) a' w') → c.wp E.P Q a w
  | .skip, s, K, r, h, g, a, w, hi, Q, hk => wp_skip (hk .norm s g a w h hi)
  | .region id ops false, s, K, r, h, g, a, w, hi, Q, hk => by
    obtain ⟨e, s', he, hl⟩ := ev_sound hE hc ⟨[], [], false⟩ rfl fuel (.region id ops false) s K r h
    exact hl B G0 w0 g a w hi Q fun g' a' w' hi' => hk e s' g' a' w' he hi'
  | .region id ops true, s, K, r, h, g, a, w, hi, Q, hk => by
    unfold ev at h
    rcases reg_sound (id := id) hE hc h with ⟨e, s', he, hl⟩ | ⟨hns, hsok, s1, hht, h⟩
    · exact hl B G0 w0 g a w hi Q fun g' a' w' hi' => hk e s' g' a' w' he hi'
    · obtain ⟨_, h⟩ := cond_some h
      refine Code.wp_mono (Q := fun e a w => match e with | .normal => Q .normal a w | _ => False) (fun e a w q => by cases e <;> first | exact q | exact q.elim) ?_
      refine wp_region_any hE.mixed ?_
      refine hoist_sub hE hns hsok (fun c a d v w q => q.elim) hht hi fun a' hi' => ?_
      refine ord_sound hE hc (subOps ops (keepL ops (hoistL E.P ops))).size [] s1 _ g a' _ (by simp) (fun i => ?_) (Nat.le_trans List.countP_le_length (by simp)) h hi'.drew fun s' g' a' w' he hi' => hk .norm s' g' a' w' he hi'
      simp only [Array.getD_eq_getD_getElem?, Array.getElem?_replicate, List.not_mem_nil, iff_false]
      split <;> simp
  | .seq x y, s, K, r, h, g, a, w, hi, Q, hk => by
    unfold ev at h
    refine wp_seq (ev_cps hE hc tot fuel x s _ r h g a w hi _ fun e s1 g' a' w' he hi' => ?_)
    cases e with
    | norm => exact ev_cps hE hc tot fuel y s1 K r he g' a' w' hi' Q hk
    | exit id => exact hk (.exit id) s1 g' a' w' he hi'
    | ret => exact hk .ret s1 g' a' w' he hi'
    | pan v => exact hk (.pan v) s1 g' a' w' he hi'
  | .cond c x y, s, K, r, h, g, a, w, hi, Q, hk => by
    unfold ev at h
    split at h
    · rename_i t ht
      have hv : a.eval c = .bool t := by
        have := evalO_rep hi.fr hi.globG c
        rw [ht, trep_bool] at this
        exact this
      rcases sel_some h with ⟨rfl, h⟩ | ⟨rfl, h⟩
      · exact wp_cond hv (ev_cps hE hc tot fuel x s K r h g a w hi Q hk)
      · exact wp_cond hv (ev_cps hE hc tot fuel y s K r h g a w hi Q hk)
    · cases h
  | .block id b, s, K, r, h, g, a, w, hi, Q, hk => by
    unfold ev at h
    refine wp_block (ev_cps hE hc tot fuel b s _ r h g a w hi _ fun e s1 g' a' w' he hi' => ?_)
    cases e with
    | norm => exact hk .norm s1 g' a' w' he hi'
    | ret => exact hk .ret s1 g' a' w' he hi'
    | pan v => exact hk (.pan v) s1 g' a' w' he hi'
    | exit i =>
      have he : (bif i == id then K .norm s1 else K (.exit i) s1) = some r := he
      by_cases hid : i = id
      · have : (i == id) = true := by simpa using hid
        rw [this] at he
        show (if i = id then Q .normal a' w' else Q (.exit i) a' w')
        rw [if_pos hid]
        exact hk .norm s1 g' a' w' he hi'
      · have : (i == id) = false := by simpa using hid
        rw [this] at he
        show (if i = id then Q .normal a' w' else Q (.exit i) a' w')
        rw [if_neg hid]
        exact hk (.exit i) s1 g' a' w' he hi'
  | .loop b, s, K, r, h, g, a, w, hi, Q, hk => by
    unfold ev at h
    generalize maskOf tot.tot tot.unc s.fr.length b = mask at h
    have key : ∀ (n : Nat) (s : St), loopK b (fun s K => ev E call tot fuel b s K) mask K n s = some r → ∀ (g : Gh) (a : Act) (w : World), Inv E B G0 w0 s g a w → Code.rounds E.P b Q n a w := by
      intro n
      induction n with
      | zero => intro s h; cases h
      | succ n ih =>
        intro s h g a w hi
        unfold loopK at h
        simp only [pf_eq] at h
        rw [rounds_succ]
        refine ev_cps hE hc tot fuel b _ _ r h g a w hi _ fun e s1 g' a' w' he hi' => ?_
        cases e with
        | norm =>
          obtain ⟨g1, hi1⟩ := hi'.head mask
          exact ih _ he g1 a' w' hi1
        | exit id => exact hk (.exit id) s1 g' a' w' he hi'
        | ret => exact hk .ret s1 g' a' w' he hi'
        | pan v => exact hk (.pan v) s1 g' a' w' he hi'
    refine wp_loop_rounds fuel ?_
    obtain ⟨g1, hi1⟩ := hi.head mask
    exact key fuel _ h g1 a w hi1
  | .exit id, s, K, r, h, g, a, w, hi, Q, hk => wp_exit (hk (.exit id) s g a w h hi)
  | .label l, s, K, r, h, g, a, w, hi, Q, hk => wp_label (hk .norm s g a w h hi)
  | .ret, s, K, r, h, g, a, w, hi, Q, hk => wp_ret (hk .ret s g a w h hi)
  | .rangeFunc .., s, K, r, h, _, _, _, _, _, _ => by unfold ev at h; cases h
  | .scope _, s, K, r, h, _, _, _, _, _, _ => by unfold ev at h; cases h
  | .goto _, s, K, r, h, _, _, _, _, _, _ => by unfold ev at h; cases h
  | .refuse _, s, K, r, h, _, _, _, _, _, _ => by unfold ev at h; cases h
def resOne : V → Bool
  | .tup _ => false
  | .fn _ _ => false
  | .box _ _ => false
  | .eptr _ _ _ _ _ _ => false
  | .old _ => false
  | _ => true
theorem sres_of_srep {g : Gh} {w : World} {x : V} {v : Value} (hO : OOk B g w) (hx : x.single = true) (hb : resOne x = true) (h : srep g x v) : sres g.G w B.m x v := by
  cases x with
  | sl e sh ow xs =>
    cases ow with
    | none => exact h
    | some L =>
      obtain ⟨hL, ho⟩ := h
      obtain ⟨h1, h2⟩ := hO.1 L v e _ hL
      refine ⟨h1, ?_⟩
      rcases ho with ⟨hv, hx⟩ | ⟨b, cap, l, hv, hcap, hG, hl, hE⟩
      · exact .inl ⟨hv, hx⟩
      · rcases h2 with h2 | ⟨b', n, cap', cur, l', hv', hB', hh, hn, hcm, hcs, hG', hl'⟩
        · rw [hv] at h2; cases h2
        · rw [hv] at hv'
          simp only [Value.slice.injEq, Option.some.injEq, Addr.mk.injEq] at hv'
          obtain ⟨⟨rfl, _, _⟩, hn2, rfl⟩ := hv'
          exact .inr ⟨b, cap, cur, l, hv, hB'.1, hh, hcap, hcm, hcs, hG, hl, hE⟩
  | box k off => cases hb
  | eptr _ _ _ _ _ _ => cases hb
  | old _ => cases hb
  | tup vs => cases hx
  | fn f c => cases hx
  | _ => exact h
theorem deepR_deep {x y : V} (h : x.deepR = some y) : x.deep = some y ∧ resOne y = true := by
  cases x with
  | fn f c => cases h
  | _ => refine ⟨h, ?_⟩; simp [V.deepR, V.deep] at h <;> subst h <;> rfl
def resRun (a : Act) : ResultVar → Sem Value
  | .tmp t => pure (a.tmps.getD t undef)
  | .cell c t => do loadVar t (← asAddr (a.tmps.getD c undef))
theorem srep_of_deep {g : Gh} {x y : V} {v : Value} (h : trep g x v) (hd : x.deepR = some y) : srep g y v ∧ resOne y = true := by
  obtain ⟨hd, hr⟩ := deepR_deep hd
  have hpl := deep_plain hd
  exact ⟨trep_single (by cases y <;> first | rfl | cases hr) (trep_of_rep hpl (trep_deep h hd)), hr⟩
theorem resAt_sound {s : St} {g : Gh} {a : Act} {w : World} {w0 : World} (hi : Inv E B G0 w0 s g a w) {x : ResultVar} {y : V} (h : resAt E.P s x = some y) : ∃ u, (resRun a x).run E.P w = .ok u w ∧ srep g y u ∧ resOne y = true := by
  cases x with
  | tmp t =>
    have hev : trep g (slot s.fr t).unOld (a.tmps.getD t undef) := unOld_trep (evalO_rep hi.fr hi.globG (.tmp t))
    refine ⟨a.tmps.getD t undef, rfl, ?_⟩
    simp only [resAt] at h
    split at h
    · rename_i e sh ow xs heq
      simp only [Option.some.injEq] at h
      subst h
      rw [heq] at hev
      exact ⟨trep_single rfl hev, rfl⟩
    · exact srep_of_deep hev h
  | cell c t =>
    have hev : trep g (slot s.fr c) (a.tmps.getD c undef) := evalO_rep hi.fr hi.globG (.tmp c)
    simp only [resAt] at h
    split at h
    · rename_i k off heq
      rw [heq] at hev
      obtain ⟨b, hb, hv⟩ := trep_box.1 hev
      have hrun : (resRun a (.cell c t)).run E.P w = (loadVar t ⟨b, off, none⟩).run E.P w := by
        simp only [resRun, Sem.run_bind, hv, Go.asAddr, Sem.run_pure, Result.andThen_ok]
      split at h
      · rename_i cells hl
        obtain ⟨b', cc, e, hb', _, hh, hpw, _, _⟩ := hi.bxs.1 k cells hl
        rw [hb] at hb'
        simp only [Option.some.injEq] at hb'
        subst hb'
        have hcell : ∀ (j : Nat) v, cc.toList[j]? = some v → w.cell? ⟨b, j, none⟩ = some v := by
          intro j v hv
          simp only [World.cell?, hh]
          simpa using hv
        split at h
        · rename_i hag
          split at h
          · rename_i n hs
            split at h
            · rename_i ds hds
              simp only [Option.some.injEq] at h
              subst h
              obtain ⟨h1, h2⟩ := readBx_pw hds hpw
              have hlen : ((cc.toList.drop off).take n).length = n := by rw [List.length_take, List.length_drop]; omega
              obtain ⟨dd, hd, hrw⟩ := isAggT_true hag
              obtain ⟨ii, hii, hin⟩ := sizeT_info hs
              have := run_loadVar_mid (P := E.P) w b off t ((cc.toList.drop off).take n) dd (fun j v hv => by
                rw [List.getElem?_take] at hv
                split at hv
                · rw [List.getElem?_drop] at hv; exact hcell _ _ hv
                · cases hv) hd hrw (by rw [hii, hlen]; simp [hin])
              refine ⟨_, hrun.trans this, ?_, rfl⟩
              show rep g.G (.agg ds) _
              unfold rep
              exact ⟨_, rfl, (repL_iff _ _).2 h2⟩
            · cases h
          · cases h
        · rename_i hag
          obtain ⟨h1, h2⟩ := cond_some h
          have hlt : off < cells.length := by simpa [Nat.blt_eq] using h1
          obtain ⟨v, hv2, hrr⟩ := hpw.get (getD_some hlt)
          have hld : (loadVar t ⟨b, off, none⟩).run E.P w = .ok v w := by
            simp only [loadVar, Sem.run_bind, isAggT_run hag, Result.andThen_ok, Bool.false_eq_true, if_false, run_load, hcell _ _ hv2]
          exact ⟨v, hrun.trans hld, srep_of_deep hrr h2⟩
        · cases h
      · cases h
    · cases h
theorem resAt_plain {s : St} {x : ResultVar} {y : V} (h : resAt E.P s x = some y) : y.plain = true ∨ (∃ e sh o xs, y = .sl e sh o xs) ∨ ∃ cs, y = .agg cs := by
  cases x with
  | tmp t =>
    simp only [resAt] at h
    split at h
    · simp only [Option.some.injEq] at h; exact .inr (.inl ⟨_, _, _, _, h.symm⟩)
    · exact .inl (deep_plain (deepR_deep h).1)
  | cell c t =>
    simp only [resAt] at h
    split at h
    · split at h
      · split at h
        · split at h
          · split at h
            · simp only [Option.some.injEq] at h; exact .inr (.inr ⟨_, h.symm⟩)
            · cases h
          · cases h
        · obtain ⟨_, h2⟩ := cond_some h
          exact .inl (deep_plain (deepR_deep h2).1)
        · cases h
      · cases h
    · cases h
theorem resAt_one {s : St} {x : ResultVar} {y : V} (h : resAt E.P s x = some y) : resOne y = true := by
  cases x with
  | tmp t =>
    simp only [resAt] at h
    split at h
    · simp only [Option.some.injEq] at h; subst h; rfl
    · exact (deepR_deep h).2
  | cell c t =>
    simp only [resAt] at h
    split at h
    · split at h
      · split at h
        · split at h
          · split at h
            · simp only [Option.some.injEq] at h; subst h; rfl
            · cases h
          · cases h
        · obtain ⟨_, h2⟩ := cond_some h
          exact (deepR_deep h2).2
        · cases h
      · cases h
    · cases h
theorem results_sound {s : St} {g : Gh} {a : Act} {w : World} {w0 : World} (hi : Inv E B G0 w0 s g a w) : ∀ (rs : List ResultVar) (vs : List V), resOf E.P s rs = some vs →
    ∃ us : List Value, (rs.mapM (resRun a)).run E.P w = .ok us w ∧ PW (fun x v => srep g x v ∧ resOne x = true) vs us
  | [], vs, h => by
    simp only [resOf, Option.some.injEq] at h
    subst h
    exact ⟨[], rfl, .nil⟩
  | x :: rs, vs, h => by
    simp only [resOf] at h
    split at h
    · cases h
    · rename_i y hy
      split at h
      · cases h
      · rename_i rest hr
        simp only [Option.some.injEq] at h
        subst h
        obtain ⟨us, hu, hp⟩ := results_sound hi rs rest hr
        obtain ⟨u, h1, h2⟩ := resAt_sound hi hy
        refine ⟨u :: us, ?_, .cons h2 hp⟩
        rw [List.mapM_cons]
        simp only [Sem.run_bind, h1, Sem.run_pure, Result.andThen_ok, hu]
theorem relabL_pw {g : Gh} {w : World} (hO : OOk B g w) : ∀ (vs : List V) (us : List Value) (b : Bool), PW (fun x v => srep g x v ∧ resOne x = true) vs us → PW (sres g.G w B.m) (relabL 0 b vs) us ∧ (relabL 0 b vs).countP hasL ≤ (if b then 1 else 0)
  | [], us, b, h => by rw [h.nil_iff]; cases b <;> exact ⟨.nil, by simp [relabL]⟩
  | x :: vs, us, b, h => by
    obtain ⟨u, t, rfl, ⟨h1, h2⟩, h3⟩ := h.cons_inv
    have hsing : x.single = true := by cases x <;> first | rfl | cases h2
    have hs := sres_of_srep hO hsing h2 h1
    cases x with
    | sl e sh ow xs =>
      cases ow with
      | some L =>
        cases b with
        | true =>
          obtain ⟨p, c⟩ := relabL_pw hO vs t false h3
          refine ⟨.cons hs p, ?_⟩
          show (V.sl e sh (some 0) xs :: relabL 0 false vs).countP hasL ≤ 1
          rw [List.countP_cons]
          simp only [hasL, if_true]
          simp at c
          have : List.countP hasL (relabL 0 false vs) = 0 := by
            rw [List.countP_eq_zero]
            intro y hy
            have := c y hy
            simpa using this
          omega
        | false =>
          obtain ⟨p, c⟩ := relabL_pw hO vs t false h3
          refine ⟨.cons (show rep g.G (V.sl e sh none xs) u from ownG_rep h1.2) p, ?_⟩
          show (V.sl e sh none xs :: relabL 0 false vs).countP hasL ≤ _
          rw [List.countP_cons]
          simpa [hasL] using c
      | none =>
        obtain ⟨p, c⟩ := relabL_pw hO vs t b h3
        have e1 : relabL 0 b (V.sl e sh none xs :: vs) = V.sl e sh none xs :: relabL 0 b vs := by cases b <;> rfl
        rw [e1]
        refine ⟨.cons hs p, ?_⟩
        rw [List.countP_cons]
        simpa [hasL] using c
    | _ =>
      obtain ⟨p, c⟩ := relabL_pw hO vs t b h3
      cases b <;> exact ⟨.cons hs p, by simp only [relabL]; rw [List.countP_cons]; simpa [hasL] using c⟩
def packR : List Value → Value
  | [u] => u
  | us => .tuple us.toArray
theorem results_run {fn : Func} {a : Act} {w : World} {us : List Value} (h : (fn.results.toList.mapM (resRun a)).run E.P w = .ok us w) :
    (results fn a.tmps).run E.P w = .ok (packR us) w := by
  have key : results fn a.tmps = (do let vs ← fn.results.mapM (resRun a); pure (if h : vs.size = 1 then vs[0] else .tuple vs)) := by
    unfold results
    congr 1
  rw [key, Array.mapM_eq_mapM_toList]
  simp only [Sem.run_bind, Sem.run_map, h, Result.andThen_ok, Sem.run_pure]
  congr 1
  match us with
  | [] => simp [packR]
  | [u] => simp [packR]
  | u :: v :: l => simp [packR]
theorem ret_res {g : Gh} {w : World} (hO : OOk B g w) {vs : List V} {us : List Value} (h : PW (fun x v => srep g x v ∧ resOne x = true) vs us) : resrep g.G w B.m (retOf vs) (packR us) := by
  have tupcase : ∀ (vs : List V) (us : List Value), PW (fun x v => srep g x v ∧ resOne x = true) vs us → resrep g.G w B.m (.tup (relabL 0 true vs)) (.tuple us.toArray) := fun vs us h => by
    obtain ⟨p, c⟩ := relabL_pw hO vs us true h
    exact ⟨us, rfl, p, by simpa using c⟩
  match vs, us, h with
  | [], us, h => rw [h.nil_iff]; exact tupcase [] [] .nil
  | [x], us, h =>
    obtain ⟨u, t, rfl, ⟨h1, h2⟩, h3⟩ := h.cons_inv
    rw [h3.nil_iff]
    have hsing : x.single = true := by cases x <;> first | rfl | cases h2
    have hs := sres_of_srep hO hsing h2 h1
    show resrep g.G w B.m x u
    cases x with
    | tup _ => cases h2
    | _ => exact hs
  | x :: y :: vs, us, h =>
    have hl := h.1
    match us, hl with
    | u :: v :: us, _ => exact tupcase _ _ h
end
end Nt.Ev
