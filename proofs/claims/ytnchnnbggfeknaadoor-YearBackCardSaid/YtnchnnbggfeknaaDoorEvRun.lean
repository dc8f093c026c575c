/-
  From operations to states: what an operation's effect leaves true.
-/
import Derived.Test.YtnchnnbggfeknaaDoorEvOps8
set_option linter.unusedVariables false
set_option linter.unusedSimpArgs false
namespace Nt.Ev
open Go Go.RowKit

def hasL : V → Bool
  | .sl _ _ (some _) _ => true
  | _ => false
def sres (G : Known) (w : World) (B : Nat) : V → Value → Prop
  | .sl e sh (some _) xs, v => ownFacts G w B e sh xs v
  | x, v => rep G x v
def resrep (G : Known) (w : World) (B : Nat) : V → Value → Prop
  | .tup vs, v => ∃ a : List Value, v = .tuple a.toArray ∧ PW (sres G w B) vs a ∧ vs.countP hasL ≤ 1
  | x, v => sres G w B x v

/-- What a function answers. -/
def Contract (E : Env) (f : Nat) (args : List V) (r : V) : Prop :=
  ∀ (G : Known) (w : World) (vs : List Value), GOk G w → GlobOk E G → PW (rep G) args vs →
    Calls E.P f vs.toArray w fun e w' => ∃ v G', e = .returned v ∧ New w w' G G' ∧ resrep G' w' w.heap.size r v

def EffRel (E : Env) (s : St) (d : Option Nat) (eff : Eff) (s' : St) : Prop :=
  match eff with
  | .val v => s' = s.put d v
  | .newSl e sh xs => s' = s.put d (.sl e sh none xs)
  | .own e sh xs => ∃ k, d = some k ∧ s.noLabel k = true ∧ s' = s.put (some k) (.sl e sh (some k) xs)
  | .app L e sh xs => ∃ k, d = some k ∧ (s.kill L).noLabel k = true ∧ s' = (s.kill L).put (some k) (.sl e sh (some k) xs)
  | .newBox _ cs => ∃ k, d = some k ∧ s.noBox k = true ∧ cs.all (fun v => bnot (v.hasBox k)) = true ∧ s' = ⟨s.fr.set k (.box k 0), (k, cs) :: s.bx⟩
  | .put k off cs => ∃ old, lookBx s.bx k = some old ∧ s' = St.put ⟨s.fr, setBx s.bx k (over old off cs)⟩ d (.tup [])
  | .call f args => (∃ k r, d = some k ∧ s.noLabel k = true ∧ Contract E f args r ∧ s' = s.put (some k) (r.relab k)) ∨ (∃ r, d = none ∧ Contract E f args r ∧ s' = s)
  | .pick b x y => s' = s.put d (match b with | true => x | false => y)
  | .alts i vs => ∃ (j : Nat) (v : V), i = (j : Int) ∧ vs[j]? = some v ∧ s' = s.put d v

def CallOk (E : Env) {α : Type} (call : Caller α) : Prop := ∀ f args (K : V → Option α) r, call f args K = some r → ∃ v, K v = some r ∧ Contract E f args v

theorem altK_some {α : Type} {i : Int} {K : V → Option α} {r : α} : ∀ (vs : List V) (j0 : Nat), altK i K j0 vs = some r → ∃ (j : Nat) (v : V), i = ((j0 + j : Nat) : Int) ∧ vs[j]? = some v ∧ K v = some r
  | [], j0, h => by cases h
  | v :: l, j0, h => by
    unfold altK at h
    cases hc : ieq i (j0 : Int) with
    | true =>
      rw [hc] at h
      have e : i = (j0 : Int) := by unfold ieq at hc; simpa using hc
      exact ⟨0, v, by simpa using e, rfl, h⟩
    | false =>
      rw [hc] at h
      obtain ⟨j, v', h1, h2, h3⟩ := altK_some l (j0 + 1) h
      exact ⟨j + 1, v', by rw [h1]; congr 1; omega, by simpa using h2, h3⟩

theorem effK_rel {E : Env} {α : Type} {call : Caller α} (hc : CallOk E call) {s : St} {d : Option Nat} {eff : Eff} {K : St → Option α} {r : α} (h : effK call s d eff K = some r) : ∃ s', EffRel E s d eff s' ∧ K s' = some r := by
  cases eff with
  | val v => exact ⟨_, rfl, h⟩
  | newSl e sh xs => exact ⟨_, rfl, h⟩
  | own e sh xs =>
    cases d with
    | none => cases h
    | some k => obtain ⟨h1, h2⟩ := cond_some h; exact ⟨_, ⟨k, rfl, h1, rfl⟩, h2⟩
  | app L e sh xs =>
    cases d with
    | none => cases h
    | some k => obtain ⟨h1, h2⟩ := cond_some h; exact ⟨_, ⟨k, rfl, h1, rfl⟩, h2⟩
  | newBox e cs =>
    cases d with
    | none => cases h
    | some k => obtain ⟨h1, h2⟩ := cond_some h; rw [Bool.and_eq_true] at h1; exact ⟨_, ⟨k, rfl, h1.1, h1.2, rfl⟩, h2⟩
  | put k off cs =>
    unfold effK at h
    simp only at h
    split at h
    · rename_i old ho; exact ⟨_, ⟨old, ho, rfl⟩, h⟩
    · cases h
  | call f args =>
    cases d with
    | none =>
      obtain ⟨v, h1, h2⟩ := hc f args _ r h
      exact ⟨s, .inr ⟨v, rfl, h2, rfl⟩, h1⟩
    | some k =>
      obtain ⟨h1, h2⟩ := cond_some h
      obtain ⟨v, h3, h4⟩ := hc f args _ r h2
      exact ⟨_, .inl ⟨k, v, rfl, h1, h4, rfl⟩, h3⟩
  | pick b x y => cases b <;> exact ⟨_, rfl, h⟩
  | alts i vs =>
    obtain ⟨j, v, h1, h2, h3⟩ := altK_some vs 0 h
    exact ⟨_, ⟨j, v, by simpa using h1, h2, rfl⟩, h3⟩

section
variable {E : Env} {B : Nat} {G0 : Known} {w0 : World} {s : St} {g : Gh} {a : Act} {w : World}

theorem act_put_list (a : Act) (d : Nat) (u : Value) : (a.put (some d) u).tmps.toList = a.tmps.toList.set d u := by
  simp [Act.put]

theorem Inv.put (h : Inv E B G0 w0 s g a w) (d : Option Nat) {v : V} {u : Value} (hv : trep g v u) : Inv E B G0 w0 (s.put d v) g (a.put d u) w := by
  cases d with
  | none => exact ⟨h.fr, h.df, h.gok, h.own, h.bxs, h.bel, h.hB, h.ext, h.glob⟩
  | some d => exact ⟨by rw [act_put_list]; exact h.fr.set d hv, h.df, h.gok, h.own, h.bxs, h.bel, h.hB, h.ext, h.glob⟩

theorem new_more {w' : World} {G G' : Known} (hG : GOk G w) (h : New w w' G G') : More G G' := fun b l hb => ⟨l, by rw [h.2.1 b (known_lt hG hb)]; exact hb, List.prefix_refl _⟩

theorem own_lt (hG : GOk g.G w) (hO : OOk B g w) {L : Nat} {v : Value} {e sz b : Nat} (h : g.O L = some (v, e, sz)) (hb : v.ownBlock = some b) : b < w.heap.size := by
  rcases (hO.1 L v e sz h).2 with hv | ⟨b', n, cap, cur, l, hv, _, hh, _⟩
  · rw [hv] at hb; cases hb
  · rw [hv] at hb
    simp [Value.ownBlock] at hb
    subst hb
    exact (Array.getElem?_eq_some_iff.1 hh).1

theorem Inv.new {w' : World} {G' : Known} (h : Inv E B G0 w0 s g a w) (hn : New w w' g.G G') : Inv E B G0 w0 s { g with G := G' } a w' ∧ Ext g { g with G := G' } := by
  have hm := new_more h.gok hn
  have he : Ext g { g with G := G' } := ⟨hm, fun _ _ h => h, fun L v e sz b hL hb => hn.2.1 b (own_lt h.gok h.own hL hb), fun _ _ h => h⟩
  refine ⟨⟨h.fr.mono fun x _ v => trep_ext he, h.df, hn.2.2, ⟨fun L v e sz hL => ?_, h.own.2⟩, ⟨fun k cs hk => ?_, h.bxs.2⟩, h.bel.trans (hn.1.mono h.hB), Nat.le_trans h.hB hn.1.size, fun b hb => (hn.2.1 b (by have := h.hB; omega)).trans (h.ext b hb), h.glob.more hm⟩, he⟩
  · obtain ⟨h1, h2⟩ := h.own.1 L v e sz hL
    refine ⟨h1, h2.imp id ?_⟩
    rintro ⟨b, n, cap, cur, l, hv, hb, hh, hnc, hcm, hcs, hGb, hl⟩
    have hlt := (Array.getElem?_eq_some_iff.1 hh).1
    exact ⟨b, n, cap, cur, l, hv, hb, by rw [hn.1.block b hlt]; exact hh, hnc, hcm, hcs, by show G' b = _; rw [hn.2.1 b hlt]; exact hGb, hl⟩
  · obtain ⟨b, c, e, hb, hBb, hh, hp, ho, hGb⟩ := h.bxs.1 k cs hk
    have hlt := (Array.getElem?_eq_some_iff.1 hh).1
    exact ⟨b, c, e, hb, hBb, by rw [hn.1.block b hlt]; exact hh, hp.mono fun x _ v => trep_ext he, ho, by show G' b = _; rw [hn.2.1 b hlt]; exact hGb⟩

/-- A label that nothing bears may mean anything. -/
theorem srep_O {g : Gh} {O' : Nat → Option (Value × Nat × Nat)} {d : Nat} (hO : ∀ L, L ≠ d → O' L = g.O L) {x : V} {v : Value} (hx : hasLabelV d x = false) (h : srep g x v) : srep { g with O := O' } x v := by
  cases x with
  | sl e sh ow xs =>
    cases ow with
    | none => exact h
    | some L =>
      have hne : L ≠ d := fun e => by subst e; simp [hasLabelV] at hx
      exact ⟨(hO L hne).trans h.1, h.2⟩
  | _ => exact h
theorem trep_O {g : Gh} {O' : Nat → Option (Value × Nat × Nat)} {d : Nat} (hO : ∀ L, L ≠ d → O' L = g.O L) {x : V} {v : Value} (hx : x.hasLabel d = false) (h : trep g x v) : trep { g with O := O' } x v := by
  cases x with
  | tup vs =>
    obtain ⟨a, rfl, h⟩ := h
    simp only [V.hasLabel, List.any_eq_false] at hx
    exact ⟨a, rfl, h.mono fun y hy v hv => srep_O hO (by have := hx y hy; simpa using this) hv⟩
  | fn f c =>
    obtain ⟨a, rfl, h⟩ := h
    simp only [V.hasLabel, List.any_eq_false] at hx
    exact ⟨a, rfl, h.mono fun y hy v hv => srep_O hO (by have := hx y hy; simpa using this) hv⟩
  | _ => simp only [trep] at h ⊢; exact srep_O hO hx h
theorem bnot_true {b : Bool} (h : bnot b = true) : b = false := by cases b; rfl; cases h

theorem noLabel_fr {d : Nat} (h : s.noLabel d = true) : ∀ x ∈ s.fr, x.hasLabel d = false := by
  unfold St.noLabel at h
  rw [Bool.and_eq_true, List.all_eq_true] at h
  exact fun x hx => bnot_true (h.1 x hx)
theorem lookBx_mem : ∀ (l : List (Nat × List V)) (k : Nat) (cs : List V), lookBx l k = some cs → (k, cs) ∈ l
  | [], k, cs, h => by cases h
  | (j, ds) :: l, k, cs, h => by
    unfold lookBx at h
    cases hj : j == k with
    | true =>
      rw [hj] at h
      simp only [cond_true, Option.some.injEq] at h
      rw [beq_iff_eq] at hj
      subst hj; subst h
      exact List.mem_cons_self
    | false =>
      rw [hj] at h
      simp only [cond_false] at h
      exact List.mem_cons_of_mem _ (lookBx_mem l k cs h)
theorem noLabel_bx {d : Nat} (h : s.noLabel d = true) : ∀ k cs, lookBx s.bx k = some cs → ∀ x ∈ cs, x.hasLabel d = false := by
  intro k cs hk x hx
  unfold St.noLabel at h
  rw [Bool.and_eq_true, List.all_eq_true, List.all_eq_true] at h
  have h2 := h.2 _ (lookBx_mem _ _ _ hk)
  simp only [List.all_eq_true] at h2
  exact bnot_true (h2 x hx)

/-- A new label. -/
theorem Inv.label (h : Inv E B G0 w0 s g a w) {d e : Nat} {sh : List Kd} {xs : List V} {u : Value} (hd : s.noLabel d = true) (hu : ownFacts g.G w B e sh xs u)
    (hne : ∀ L v e sz b, g.O L = some (v, e, sz) → L ≠ d → v.ownBlock = some b → u.ownBlock ≠ some b) :
    ∃ g', g'.G = g.G ∧ Inv E B G0 w0 s g' a w ∧ srep g' (.sl e sh (some d) xs) u := by
  let O' : Nat → Option (Value × Nat × Nat) := fun L => if L = d then some (u, e, sh.length) else g.O L
  have hO' : ∀ L, L ≠ d → O' L = g.O L := fun L hL => if_neg hL
  refine ⟨{ g with O := O' }, rfl, ⟨h.fr.mono fun x hx v => trep_O hO' (noLabel_fr hd x hx), h.df, h.gok, ⟨?_, ?_⟩, ⟨fun k cs hk => ?_, h.bxs.2⟩, h.bel, h.hB, h.ext, h.glob⟩, ⟨if_pos rfl, ?_⟩⟩
  · intro L v e' sz hL
    by_cases hLd : L = d
    · subst hLd
      have hL : (if L = L then some (u, e, sh.length) else g.O L) = some (v, e', sz) := hL
      rw [if_pos rfl] at hL
      simp only [Option.some.injEq, Prod.mk.injEq] at hL
      obtain ⟨rfl, rfl, rfl⟩ := hL
      refine ⟨hu.1, ?_⟩
      rcases hu.2 with ⟨hu, _⟩ | ⟨b, cap, cur, l, hv, hb, hh, hcap, hcm, hcs, hG, hl, hE⟩
      · exact .inl hu
      · exact .inr ⟨b, _, cap, cur, l, hv, hb, hh, hcap, hcm, hcs, hG, hl⟩
    · have hL : O' L = some (v, e', sz) := hL
      rw [hO' L hLd] at hL
      exact h.own.1 L v e' sz hL
  · intro L L' v v' e1 e2 sz sz' b h1 h2 hb hb'
    have h1 : O' L = some (v, e1, sz) := h1
    have h2 : O' L' = some (v', e2, sz') := h2
    by_cases hL : L = d <;> by_cases hL' : L' = d
    · rw [hL, hL']
    · subst hL
      have h1' : (if L = L then some (u, e, sh.length) else g.O L) = some (v, e1, sz) := h1
      rw [if_pos rfl] at h1'
      simp only [Option.some.injEq, Prod.mk.injEq] at h1'
      rw [hO' L' hL'] at h2
      exact absurd (by rw [h1'.1]; exact hb) (hne L' v' e2 sz' b h2 hL' hb')
    · subst hL'
      have h2' : (if L' = L' then some (u, e, sh.length) else g.O L') = some (v', e2, sz') := h2
      rw [if_pos rfl] at h2'
      simp only [Option.some.injEq, Prod.mk.injEq] at h2'
      rw [hO' L hL] at h1
      exact absurd (by rw [h2'.1]; exact hb') (hne L v e1 sz b h1 hL hb)
    · rw [hO' L hL] at h1
      rw [hO' L' hL'] at h2
      exact h.own.2 L L' v v' e1 e2 sz sz' b h1 h2 hb hb'
  · obtain ⟨b, c, e', hb, hBb, hh, hp, ho, hG⟩ := h.bxs.1 k cs hk
    exact ⟨b, c, e', hb, hBb, hh, hp.mono fun x hx v => trep_O hO' (noLabel_bx hd k cs hk x hx), ho, hG⟩
  · rcases hu.2 with ⟨hu, hx⟩ | ⟨b, cap, cur, l, hv, hb, hh, hcap, hcm, hcs, hG, hl, hE⟩
    · exact .inl ⟨hu, hx⟩
    · exact .inr ⟨b, cap, l, hv, hcap, hG, hl, hE⟩

/-- The state without a label. -/
theorem killV_sl (L e : Nat) (sh : List Kd) (k : Nat) (xs : List V) : killV L (.sl e sh (some k) xs) = bif L == k then .sl e sh none xs else .sl e sh (some k) xs := rfl
theorem killV_srep {g : Gh} {O' : Nat → Option (Value × Nat × Nat)} {L : Nat} (hO : ∀ k, k ≠ L → O' k = g.O k) {x : V} {v : Value} (h : srep g x v) : srep { g with O := O' } (killV L x) v := by
  cases x with
  | sl e sh ow xs =>
    cases ow with
    | none => exact h
    | some k =>
      rw [killV_sl]
      by_cases hk : L = k
      · have : (L == k) = true := by simpa using hk
        rw [this]
        show rep g.G (V.sl e sh none xs) v
        exact ownG_rep h.2
      · have : (L == k) = false := by simpa using hk
        rw [this]
        exact ⟨(hO k (fun e => hk e.symm)).trans h.1, h.2⟩
  | _ => exact h
theorem killV_pw {g : Gh} {O' : Nat → Option (Value × Nat × Nat)} {L : Nat} (hO : ∀ k, k ≠ L → O' k = g.O k) {xs : List V} {vs : List Value} (h : PW (srep g) xs vs) : PW (srep { g with O := O' }) (xs.map (killV L)) vs := by
  refine ⟨by simp [h.1], fun i x v hx hv => ?_⟩
  rw [List.getElem?_map] at hx
  cases hi : xs[i]? with
  | none => rw [hi] at hx; cases hx
  | some y =>
    rw [hi] at hx
    simp only [Option.map_some, Option.some.injEq] at hx
    subst hx
    exact killV_srep hO (h.2 i y v hi hv)
theorem killV_single {L : Nat} {x : V} (h : x.single = true) : (killV L x).single = true := by
  cases x with
  | sl e sh ow xs =>
    cases ow with
    | none => rfl
    | some k => rw [killV_sl]; cases L == k <;> rfl
  | tup _ => cases h
  | fn _ _ => cases h
  | _ => rfl
theorem kill_trep {g : Gh} {O' : Nat → Option (Value × Nat × Nat)} {L : Nat} (hO : ∀ k, k ≠ L → O' k = g.O k) {x : V} {v : Value} (h : trep g x v) : trep { g with O := O' } (x.kill L) v := by
  cases x with
  | tup vs => obtain ⟨a, rfl, h⟩ := h; exact ⟨a, rfl, killV_pw hO h⟩
  | fn f c => obtain ⟨a, rfl, h⟩ := h; exact ⟨a, rfl, killV_pw hO h⟩
  | sl e sh ow xs =>
    have h2 := killV_srep (L := L) hO (trep_single rfl h)
    exact srep_trep (killV_single rfl) h2
  | _ => simp only [trep] at h ⊢; exact killV_srep hO h
theorem kill_pw {g : Gh} {O' : Nat → Option (Value × Nat × Nat)} {L : Nat} (hO : ∀ k, k ≠ L → O' k = g.O k) {xs : List V} {vs : List Value} (h : PW (trep g) xs vs) : PW (trep { g with O := O' }) (xs.map (V.kill L)) vs := by
  refine ⟨by simp [h.1], fun i x v hx hv => ?_⟩
  rw [List.getElem?_map] at hx
  cases hi : xs[i]? with
  | none => rw [hi] at hx; cases hx
  | some y =>
    rw [hi] at hx
    simp only [Option.map_some, Option.some.injEq] at hx
    subst hx
    exact kill_trep hO (h.2 i y v hi hv)
theorem lookBx_map (f : List V → List V) : ∀ (l : List (Nat × List V)) (k : Nat), lookBx (l.map fun (k, cs) => (k, f cs)) k = (lookBx l k).map f
  | [], k => rfl
  | (j, ds) :: l, k => by
    simp only [List.map_cons, lookBx]
    cases j == k
    · exact lookBx_map f l k
    · rfl
theorem look_kill (s : St) (L k : Nat) : lookBx (s.kill L).bx k = (lookBx s.bx k).map (List.map (V.kill L)) := lookBx_map _ _ _

theorem Inv.kill (h : Inv E B G0 w0 s g a w) (L : Nat) : Inv E B G0 w0 (s.kill L) { g with O := fun k => if k = L then none else g.O k } a w := by
  have hO : ∀ k, k ≠ L → (if k = L then none else g.O k) = g.O k := fun k hk => if_neg hk
  refine ⟨kill_pw hO h.fr, h.df, h.gok, ⟨fun k v e sz hk => ?_, fun k k' v v' e e' sz sz' b h1 h2 => ?_⟩, ⟨fun k cs hk => ?_, fun k k' cs cs' h1 h2 => ?_⟩, h.bel, h.hB, h.ext, h.glob⟩
  · have hk : (if k = L then none else g.O k) = some (v, e, sz) := hk
    split at hk
    · cases hk
    · exact h.own.1 k v e sz hk
  · have h1 : (if k = L then none else g.O k) = some (v, e, sz) := h1
    have h2 : (if k' = L then none else g.O k') = some (v', e', sz') := h2
    split at h1
    · cases h1
    · split at h2
      · cases h2
      · exact h.own.2 k k' v v' e e' sz sz' b h1 h2
  · rw [look_kill] at hk
    cases hq : lookBx s.bx k with
    | none => rw [hq] at hk; cases hk
    | some ds =>
      rw [hq] at hk
      simp only [Option.map_some, Option.some.injEq] at hk
      subst hk
      obtain ⟨b, c, e, hb, hBb, hh, hp, ho, hG⟩ := h.bxs.1 k ds hq
      exact ⟨b, c, e, hb, hBb, hh, kill_pw hO hp, ho, hG⟩
  · rw [look_kill] at h1 h2
    cases hq : lookBx s.bx k with
    | none => rw [hq] at h1; cases h1
    | some ds =>
      cases hq' : lookBx s.bx k' with
      | none => rw [hq'] at h2; cases h2
      | some ds' => exact h.bxs.2 k k' ds ds' hq hq'
end
end Nt.Ev
