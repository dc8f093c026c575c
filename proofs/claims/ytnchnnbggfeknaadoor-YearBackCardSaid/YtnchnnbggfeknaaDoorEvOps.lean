/-
  Each operation that the evaluator takes does in the model what the evaluator says.
-/
import Derived.Test.YtnchnnbggfeknaaDoorEvRep
set_option linter.unusedVariables false
set_option linter.unusedSimpArgs false
namespace Nt.Ev
open Go Go.RowKit

def New (w w' : World) (G G' : Known) : Prop := Below w.heap.size w w' ∧ (∀ b, b < w.heap.size → G' b = G b) ∧ GOk G' w'

def ownFacts (G : Known) (w : World) (B : Nat) (e : Nat) (sh : List Kd) (xs : List V) (u : Value) : Prop :=
  0 < sh.length ∧ ((u = .slice none 0 0 ∧ xs = []) ∨ ∃ b cap cur l, u = .slice (some ⟨b, 0, none⟩) xs.length cap ∧ B ≤ b ∧ w.heap[b]? = some (.cells cur e (0, 0)) ∧ xs.length ≤ cap ∧ cap ≤ maxLen ∧
    cur.size = cap * sh.length ∧ G b = some l ∧ l.length = xs.length * sh.length ∧ repE G sh xs l)

def Does (P : Program) (ρ : Operand → Value) (o : Oper) (B : Nat) (w : World) (g : Gh) (bx : List (Nat × List V)) : Eff → Prop
  | .val v => ∃ u, (execOp ρ o).run P w = .ok (.value u) w ∧ trep g v u
  | .own e sh xs => ∃ u w' G', (execOp ρ o).run P w = .ok (.value u) w' ∧ New w w' g.G G' ∧ ownFacts G' w' w.heap.size e sh xs u
  | .newSl e sh xs => ∃ u w' G', (execOp ρ o).run P w = .ok (.value u) w' ∧ New w w' g.G G' ∧ rep G' (.sl e sh none xs) u
  | .newBox e cs => ∃ c, (execOp ρ o).run P w = .ok (.value (.pointer (some ⟨w.heap.size, 0, none⟩))) (w.alloc (.cells c e)) ∧ PW (trep g) cs c.toList ∧ ∀ u ∈ c.toList, u.oneCell' = true
  | .put k off cs => ∃ b c e us old, g.β k = some b ∧ lookBx bx k = some old ∧ w.heap[b]? = some (.cells c e (0, 0)) ∧ PW (trep g) old c.toList ∧
      (execOp ρ o).run P w = .ok .skip (w.setRow b (c.toList.take off ++ us ++ c.toList.drop (off + us.length)).toArray) ∧ PW (trep g) cs us ∧ (∀ u ∈ us, u.oneCell' = true) ∧ off + cs.length ≤ old.length
  | .app L e sh xs => ∃ v0 u w' G', g.O L = some (v0, e, sh.length) ∧ (execOp ρ o).run P w = .ok (.value u) w' ∧ w.grownBy w' v0.ownBlock ∧ (∀ b, b < w.heap.size → some b ≠ v0.ownBlock → G' b = g.G b) ∧ More g.G G' ∧ GOk G' w' ∧
      ownFacts G' w' B e sh xs u ∧ (u.ownBlock = v0.ownBlock ∨ ∀ b, u.ownBlock = some b → w.heap.size ≤ b)
  | .call f args => ∃ vs : List Value, (execOp ρ o).run P w = .ok (.enter f vs.toArray) w ∧ PW (rep g.G) args vs
  | .pick b x y => ∃ u, (execOp ρ o).run P w = .ok (.value u) w ∧ trep g (match b with | true => x | false => y) u
  | .alts i vs => ∀ (j : Nat) v, i = (j : Int) → vs[j]? = some v → ∃ u, (execOp ρ o).run P w = .ok (.value u) w ∧ trep g v u

theorem absC_rep (G : Known) (v : Value) : rep G (absC v) v := by
  unfold absC
  split
  · unfold rep; rfl
  · unfold rep; rfl
  · rename_i s; unfold rep; cases s; simp
  · unfold rep; rfl
  · unfold rep; trivial
theorem absC_plain (v : Value) : (absC v).plain = true := by unfold absC; split <;> rfl
theorem absV_rep (G : Known) (v : Value) : rep G (absV v) v := by
  unfold absV
  split
  · rename_i cs
    unfold rep
    refine ⟨cs.toList, by simp, (repL_iff _ _).2 ⟨by simp, fun i x v hx hv => ?_⟩⟩
    simp only [List.getElem?_map, hv, Option.map_some, Option.some.injEq] at hx
    subst hx
    exact absC_rep G v
  · exact absC_rep G v
theorem absV_plain (v : Value) : (absV v).plain = true := by unfold absV; split; rfl; exact absC_plain v

section
variable {E : Env} {B : Nat} {G0 : Known} {w0 : World} {s : St} {g : Gh} {a : Act} {w : World}

theorem evalO_rep (hf : PW (trep g) s.fr a.tmps.toList) (hg : GlobOk E g.G) (x : Operand) : trep g (evalO E s.fr x) (a.eval x) := by
  cases x with
  | tmp t =>
    show trep g (slot s.fr t) (a.tmps.getD t undef)
    unfold slot
    by_cases h : t < s.fr.length
    · have h' : t < a.tmps.toList.length := by rw [← hf.1]; exact h
      have := hf.2 t s.fr[t] a.tmps.toList[t] (List.getElem?_eq_getElem h) (List.getElem?_eq_getElem h')
      rw [List.getD_eq_getElem?_getD, List.getElem?_eq_getElem h]
      have h'' : t < a.tmps.size := by simpa using h'
      have e : a.tmps.getD t undef = a.tmps.toList[t] := by simp [Array.getD, h'']
      rw [e]
      exact this
    · have : s.fr.getD t .any = .any := by rw [List.getD_eq_getElem?_getD, List.getElem?_eq_none (Nat.le_of_not_lt h)]; rfl
      rw [this]
      simp only [trep, srep]
      unfold rep; trivial
  | const v => exact trep_of_rep (absV_plain v) (absV_rep g.G v)
  | global n =>
    show trep g (match E.glob n with | some v => v | none => .any) (.pointer (some ⟨n, 0, none⟩))
    cases h : E.glob n with
    | none => simp only [trep, srep]; unfold rep; trivial
    | some v => exact trep_of_rep (hg n v h).1 (hg n v h).2
  | func f => exact ⟨[], rfl, .nil⟩
end

section
variable {P : Program} {ρ : Operand → Value} {o : Oper} {B : Nat} {w : World} {g : Gh} {bx : List (Nat × List V)}

/-- An operation that yields a value. -/
theorem does_val {v : V} {u : Value} {m : Sem Value} (h1 : execOp ρ o = (do pure (.value (← m)))) (h2 : m.run P w = .ok u w) (h3 : trep g v u) : Does P ρ o B w g bx (.val v) :=
  ⟨u, by rw [h1]; simp [h2], h3⟩

theorem trep_bool {b : Bool} {v : Value} : trep g (.bool b) v ↔ v = .bool b := by simp only [trep, srep]; unfold rep; rfl
theorem trep_int {k : IntKind} {n : Int} {v : Value} : trep g (.int k n) v ↔ v = .int k n := by simp only [trep, srep]; unfold rep; rfl
theorem trep_str {l : List UInt8} {v : Value} : trep g (.str l) v ↔ v = .string ⟨l.toArray⟩ := by simp only [trep, srep]; unfold rep; rfl
theorem trep_nilsl {v : Value} : trep g .nilsl v ↔ v = .slice none 0 0 := by simp only [trep, srep]; unfold rep; rfl
theorem trep_any {v : Value} : trep g .any v := by simp only [trep, srep]; unfold rep; trivial
theorem trep_agg {cs : List V} {v : Value} : trep g (.agg cs) v ↔ ∃ a : List Value, v = .agg a.toArray ∧ PW (rep g.G) cs a := by simp only [trep, srep]; unfold rep; simp only [repL_iff]
theorem trep_box {k off : Nat} {v : Value} : trep g (.box k off) v ↔ ∃ b, g.β k = some b ∧ v = .pointer (some ⟨b, off, none⟩) := by simp only [trep, srep]
theorem trep_rptr {sh : List Kd} {x : V} {off : Nat} {v : Value} : trep g (.rptr sh x off) v ↔ ∃ b o l, v = .pointer (some ⟨b, o + off, none⟩) ∧ g.G b = some l ∧ fitsE sh x = true ∧ ∃ u, rep g.G x u ∧ (l.drop o).take sh.length = u.cells.toList := by
  show rep g.G (.rptr sh x off) v ↔ _; rw [rep]
theorem trep_slice {e : Nat} {sh : List Kd} {ow : Option Nat} {xs : List V} {v : Value} (h : trep g (.sl e sh ow xs) v) : rep g.G (.sl e sh none xs) v := by
  cases ow with
  | none => exact h
  | some L => exact ownG_rep h.2

theorem seq_toList (a b : List UInt8) : ((⟨a.toArray⟩ : ByteArray).toList == (⟨b.toArray⟩ : ByteArray).toList) = seq a b := by
  rw [ByteArray.toList_eq, ByteArray.toList_eq]; rfl
theorem cat_bytes (a b : List UInt8) : (⟨a.toArray⟩ : ByteArray) ++ ⟨b.toArray⟩ = ⟨(scat a b).toArray⟩ := by
  apply ByteArray.ext
  simp [scat]

theorem eqGuard_int (op : BinOp) (t : TypeId) (x y : Operand) (k k' : IntKind) (a b : Int) : (eqGuard op t x y (.int k a) (.int k' b)).run P w = .ok () w := by
  unfold eqGuard; split <;> rfl
theorem eqGuard_str (op : BinOp) (t : TypeId) (x y : Operand) (a b : ByteArray) : (eqGuard op t x y (.string a) (.string b)).run P w = .ok () w := by
  unfold eqGuard; split <;> rfl
theorem eqGuard_bool (op : BinOp) (t : TypeId) (x y : Operand) (a b : Bool) : (eqGuard op t x y (.bool a) (.bool b)).run P w = .ok () w := by
  unfold eqGuard; split <;> rfl

theorem binOp_sound {op : BinOp} {xt yt : TypeId} {x y : Operand} {X Y : V} (ho : o.op = .binOp op xt x y yt) (hx : trep g X (ρ x)) (hy : trep g Y (ρ y)) {v : V} (h : binV op X Y = some (true, v))
    (hbool : ∀ a b, X = .bool a → Y = .bool b → P.underlying xt = some .bool) : Does P ρ o B w g bx (.val v) := by
  have he : execOp ρ o = (do pure (.value (← (do eqGuard op xt x y (ρ x) (ρ y); binOp op xt (ρ x) (ρ y))))) := by simp only [execOp, ho]
  unfold binV at h
  split at h
  · rename_i k a k' b
    rw [trep_int] at hx hy
    have key : ∀ u, (binOp op xt (.int k a) (.int k' b)).run P w = .ok u w → trep g v u → Does P ρ o B w g bx (.val v) := by
      intro u hu ht
      refine does_val he ?_ ht
      rw [hx, hy]
      simp only [Sem.run_bind, eqGuard_int, Result.andThen_ok, hu]
    split at h
    · simp only [Option.some.injEq, Prod.mk.injEq] at h
      obtain ⟨h1, rfl⟩ := h
      unfold ile at h1
      have h1 := of_decide_eq_true h1
      refine key (.int k (ishl k a b)) ?_ (trep_int.2 rfl)
      simp [binOp, Op.shift, ishl, Int.not_lt.2 h1]
    · simp only [Option.some.injEq, Prod.mk.injEq] at h
      obtain ⟨h1, rfl⟩ := h
      unfold ile at h1
      have h1 := of_decide_eq_true h1
      refine key (.int k (ishr k a b)) ?_ (trep_int.2 rfl)
      simp [binOp, Op.shift, ishr, Int.not_lt.2 h1]
    · rename_i hn1 hn2
      simp only [cond_eq_ite, decide_eq_true_eq] at h
      split at h
      · rename_i hk
        subst hk
        unfold intV at h
        split at h
        all_goals first | (cases h; done) | skip
        all_goals
          simp only [Option.some.injEq, Prod.mk.injEq] at h
          obtain ⟨h1, rfl⟩ := h
          first
            | refine key _ (by simp only [binOp, ne_eq, not_true_eq_false, if_false, Op.intArith]; rfl) (trep_int.2 rfl)
            | refine key _ (by simp only [binOp, ne_eq, not_true_eq_false, if_false, Op.intBits]; rfl) (trep_int.2 rfl)
            | refine key _ (by simp only [binOp, ne_eq, not_true_eq_false, if_false, Op.intCmp]; rfl) (trep_bool.2 rfl)
            | (have hb : b ≠ 0 := by
                 intro hb
                 subst hb
                 simp [bnot, ieq] at h1
               refine key _ (by simp only [binOp, ne_eq, not_true_eq_false, if_false, Op.intDiv, hb]; rfl) (trep_int.2 rfl))
      · cases h
  · rename_i a b
    rw [trep_str] at hx hy
    have key : ∀ u, (Op.stringOp op ⟨a.toArray⟩ ⟨b.toArray⟩).run P w = .ok u w → trep g v u → Does P ρ o B w g bx (.val v) := by
      intro u hu ht
      refine does_val he ?_ ht
      rw [hx, hy]
      have e : binOp op xt (.string ⟨a.toArray⟩) (.string ⟨b.toArray⟩) = Op.stringOp op ⟨a.toArray⟩ ⟨b.toArray⟩ := by cases op <;> rfl
      simp only [Sem.run_bind, eqGuard_str, Result.andThen_ok, e, hu]
    unfold strV at h
    split at h
    all_goals first | (cases h; done) | skip
    all_goals
      simp only [Option.some.injEq, Prod.mk.injEq] at h
      obtain ⟨h1, rfl⟩ := h
    · unfold okCat nle at h1
      have h1 := of_decide_eq_true h1
      refine key (.string ⟨(scat a b).toArray⟩) ?_ (trep_str.2 rfl)
      have hs : ¬ (((⟨a.toArray⟩ : ByteArray).size + (⟨b.toArray⟩ : ByteArray).size : Nat) : Int) > IntKind.i64.max := by
        have e1 : (⟨a.toArray⟩ : ByteArray).size = a.length := by simp [ByteArray.size]
        have e2 : (⟨b.toArray⟩ : ByteArray).size = b.length := by simp [ByteArray.size]
        rw [e1, e2]
        have : IntKind.i64.max = 9223372036854775807 := by decide
        rw [this]; omega
      simp only [Op.stringOp, hs, if_false, cat_bytes]
      rfl
    · refine key _ (by simp only [Op.stringOp, seq_toList]; rfl) (trep_bool.2 rfl)
    · refine key _ (by simp only [Op.stringOp, seq_toList]; rfl) (trep_bool.2 rfl)
    · refine key _ (by simp only [Op.stringOp, ByteArray.toList_eq]; rfl) (trep_bool.2 rfl)
    · refine key _ (by simp only [Op.stringOp, ByteArray.toList_eq]; rfl) (trep_bool.2 rfl)
    · refine key (.bool (band (bnot (slt a b)) (bnot (seq a b)))) ?_ (trep_bool.2 rfl)
      have e : (!(Op.bytesLess a b || a == b)) = band (bnot (slt a b)) (bnot (seq a b)) := by
        unfold slt seq; cases Op.bytesLess a b <;> cases a == b <;> rfl
      rw [← e]
      simp only [Op.stringOp, ByteArray.toList_eq]; rfl
    · refine key (.bool (bnot (band (bnot (slt a b)) (bnot (seq a b))))) ?_ (trep_bool.2 rfl)
      have e : (Op.bytesLess a b || a == b) = bnot (band (bnot (slt a b)) (bnot (seq a b))) := by
        unfold slt seq; cases Op.bytesLess a b <;> cases a == b <;> rfl
      rw [← e]
      simp only [Op.stringOp, ByteArray.toList_eq]; rfl
  · rename_i a b
    have hu := hbool a b rfl rfl
    rw [trep_bool] at hx hy
    have hq : (Op.equal xt (.bool a) (.bool b)).run P w = .ok (a == b) w := by
      have e : Op.equal xt (.bool a) (.bool b) = Op.equalIn (9999 + 1) xt (.bool a) (.bool b) := rfl
      rw [e, Op.equalIn]
      simp only [Sem.run_bind, run_underlying hu, Result.andThen_ok]
      rfl
    split at h
    all_goals first | (cases h; done) | skip
    all_goals
      simp only [Option.some.injEq, Prod.mk.injEq] at h
      obtain ⟨h1, rfl⟩ := h
    · refine does_val he (u := .bool (a == b)) ?_ (trep_bool.2 rfl)
      rw [hx, hy]
      simp only [Sem.run_bind, eqGuard_bool, Result.andThen_ok, binOp, hq, Sem.run_pure]
    · refine does_val he (u := .bool (!(a == b))) ?_ (trep_bool.2 rfl)
      rw [hx, hy]
      simp only [Sem.run_bind, eqGuard_bool, Result.andThen_ok, binOp, hq, Sem.run_pure]
  · cases h
end
end Nt.Ev
