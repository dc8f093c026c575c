/-
  A region that draws its order: what the text's order gives, every order gives.
-/
import Derived.Test.YtnchnnbggfeknaaDoorEvRun3
set_option linter.unusedVariables false
set_option linter.unusedSimpArgs false
namespace Nt.Ev
open Go Go.RowKit

/-- What an operation of such a region does to a state. -/
structure Chg where
  d : Nat
  v : V
  bx : Option (List V)

def Chg.app (c : Chg) (s : St) : St := ⟨s.fr.set c.d c.v, match c.bx with | some cs => (c.d, cs) :: s.bx | none => s.bx⟩

/-- The state in which the listed operations have been taken. -/
def selSt (sel : Nat → Bool) : List Chg → Nat → St → St
  | [], _, s => s
  | c :: l, k, s => selSt sel l (k + 1) (if sel k = true then c.app s else s)

/-- Two states that tell the same. -/
structure Alike (s s' : St) : Prop where
  fr : s.fr = s'.fr
  bx : ∀ k, lookBx s.bx k = lookBx s'.bx k

theorem Alike.refl (s : St) : Alike s s := ⟨rfl, fun _ => rfl⟩
theorem Alike.trans {a b c : St} (h : Alike a b) (k : Alike b c) : Alike a c := ⟨h.fr.trans k.fr, fun j => (h.bx j).trans (k.bx j)⟩
theorem Alike.app {a b : St} (h : Alike a b) (c : Chg) : Alike (c.app a) (c.app b) := by
  refine ⟨by simp [Chg.app, h.fr], fun k => ?_⟩
  unfold Chg.app
  cases c.bx with
  | none => exact h.bx k
  | some cs => simp only [lookBx]; rw [h.bx k]
theorem Alike.comm (s : St) {c c' : Chg} (h : c.d ≠ c'.d) : Alike (c.app (c'.app s)) (c'.app (c.app s)) := by
  refine ⟨by simp [Chg.app, List.set_comm _ _ (fun e => h e.symm)], fun k => ?_⟩
  unfold Chg.app
  cases hb : c.bx <;> cases hb' : c'.bx <;> simp only [lookBx]
  by_cases h1 : c.d = k
  · have e1 : (c.d == k) = true := by simpa using h1
    have e2 : (c'.d == k) = false := by rw [beq_eq_false_iff_ne]; intro e; exact h (h1.trans e.symm)
    rw [e1, e2]; rfl
  · have e1 : (c.d == k) = false := by simpa using h1
    rw [e1]; rfl

theorem selSt_alike (sel : Nat → Bool) : ∀ (l : List Chg) (k : Nat) (s s' : St), Alike s s' → Alike (selSt sel l k s) (selSt sel l k s')
  | [], _, _, _, h => h
  | c :: l, k, s, s', h => by
    unfold selSt
    refine selSt_alike sel l (k + 1) _ _ ?_
    split
    · exact h.app c
    · exact h

/-- A change behind the others. -/
theorem selSt_app (sel : Nat → Bool) (c : Chg) : ∀ (l : List Chg) (k : Nat) (s : St), (∀ c' ∈ l, c'.d ≠ c.d) → Alike (c.app (selSt sel l k s)) (selSt sel l k (c.app s))
  | [], _, _, _ => .refl _
  | c' :: l, k, s, h => by
    unfold selSt
    refine (selSt_app sel c l (k + 1) _ fun x hx => h x (List.mem_cons_of_mem _ hx)).trans (selSt_alike sel l (k + 1) _ _ ?_)
    split
    · exact Alike.comm s fun e => h c' List.mem_cons_self e.symm
    · exact .refl _

theorem selSt_congr (sel sel' : Nat → Bool) : ∀ (l : List Chg) (k : Nat) (s : St), (∀ i, k ≤ i → i < k + l.length → sel i = sel' i) → selSt sel l k s = selSt sel' l k s
  | [], _, _, _ => rfl
  | c :: l, k, s, h => by
    unfold selSt
    rw [h k (Nat.le_refl _) (by simp)]
    exact selSt_congr sel sel' l (k + 1) _ fun i h1 h2 => h i (by omega) (by simp; omega)

/-- One operation more is listed. -/
theorem selSt_more (sel : Nat → Bool) (i : Nat) : ∀ (l : List Chg) (k : Nat) (s : St) (c : Chg), k ≤ i → l[i - k]? = some c → sel i = false → (l.map (·.d)).Nodup →
    Alike (c.app (selSt sel l k s)) (selSt (fun j => if j = i then true else sel j) l k s)
  | [], k, s, c, hk, hc, _, _ => by simp at hc
  | c' :: l, k, s, c, hk, hc, hs, hn => by
    simp only [List.map_cons, List.nodup_cons] at hn
    by_cases e : i = k
    · subst e
      simp only [Nat.sub_self, List.getElem?_cons_zero, Option.some.injEq] at hc
      subst hc
      unfold selSt
      rw [hs, if_neg (by decide), if_pos rfl, if_pos rfl]
      refine (selSt_app sel c' l (i + 1) s fun x hx e => hn.1 (e ▸ List.mem_map_of_mem hx)).trans ?_
      rw [selSt_congr sel (fun j => if j = i then true else sel j) l (i + 1) _ fun j h1 _ => by
        have : j ≠ i := by omega
        simp [this]]
      exact .refl _
    · unfold selSt
      have e2 : ¬ k = i := fun h => e h.symm
      rw [if_neg e2]
      refine selSt_more sel i l (k + 1) _ c (by omega) ?_ hs hn.2
      rw [show i - k = (i - (k + 1)) + 1 by omega] at hc
      simpa using hc

theorem selSt_len (sel : Nat → Bool) : ∀ (l : List Chg) (k : Nat) (s : St), (selSt sel l k s).fr.length = s.fr.length
  | [], _, _ => rfl
  | c :: l, k, s => by
    unfold selSt
    rw [selSt_len sel l (k + 1)]
    split
    · simp [Chg.app]
    · rfl

theorem slot_set_ne {fr : List V} {d t : Nat} {v : V} (h : t ≠ d) : slot (fr.set d v) t = slot fr t := by
  unfold slot
  rw [List.getD_eq_getElem?_getD, List.getD_eq_getElem?_getD, List.getElem?_set_ne (fun e => h e.symm)]
theorem slot_set_eq {fr : List V} {d : Nat} {v : V} (h : d < fr.length) : slot (fr.set d v) d = v := by
  unfold slot
  rw [List.getD_eq_getElem?_getD, List.getElem?_set_self h]; rfl

/-- A slot that no operation writes. -/
theorem selSt_other (sel : Nat → Bool) (t : Nat) : ∀ (l : List Chg) (k : Nat) (s : St), (∀ c ∈ l, c.d ≠ t) → slot (selSt sel l k s).fr t = slot s.fr t
  | [], _, _, _ => rfl
  | c :: l, k, s, h => by
    unfold selSt
    rw [selSt_other sel t l (k + 1) _ fun x hx => h x (List.mem_cons_of_mem _ hx)]
    split
    · exact slot_set_ne fun e => h c List.mem_cons_self e.symm
    · rfl
/-- The slot of a listed operation. -/
theorem selSt_slot (sel : Nat → Bool) (j : Nat) : ∀ (l : List Chg) (k : Nat) (s : St) (c : Chg), k ≤ j → l[j - k]? = some c → (l.map (·.d)).Nodup → c.d < s.fr.length → slot (selSt sel l k s).fr c.d = if sel j = true then c.v else slot s.fr c.d
  | [], k, s, c, hk, hc, _, _ => by simp at hc
  | c' :: l, k, s, c, hk, hc, hn, hd => by
    simp only [List.map_cons, List.nodup_cons] at hn
    unfold selSt
    by_cases e : j = k
    · subst e
      simp only [Nat.sub_self, List.getElem?_cons_zero, Option.some.injEq] at hc
      subst hc
      rw [selSt_other sel c'.d l (j + 1) _ fun x hx e => hn.1 (e ▸ List.mem_map_of_mem hx)]
      split
      · exact slot_set_eq hd
      · rfl
    · rw [show j - k = (j - (k + 1)) + 1 by omega] at hc
      have hc' : l[j - (k + 1)]? = some c := by simpa using hc
      rw [selSt_slot sel j l (k + 1) _ c (by omega) hc' hn.2 (by split <;> simpa [Chg.app] using hd)]
      split
      · rfl
      · split
        · refine slot_set_ne fun e2 => hn.1 ?_
          rw [← e2]
          exact List.mem_map_of_mem (List.mem_of_getElem? hc')
        · rfl

section
variable {E : Env} {B : Nat} {G0 : Known} {w0 : World}

theorem Inv.alike {s s' : St} {g : Gh} {a : Act} {w : World} (h : Inv E B G0 w0 s g a w) (k : Alike s s') : Inv E B G0 w0 s' g a w :=
  ⟨by rw [← k.fr]; exact h.fr, h.df, h.gok, h.own, ⟨fun j cs hj => h.bxs.1 j cs ((k.bx j).trans hj), fun j j' cs cs' hj hj' => h.bxs.2 j j' cs cs' ((k.bx j).trans hj) ((k.bx j').trans hj')⟩, h.bel, h.hB, h.ext, h.glob⟩
end
end Nt.Ev
