/-
  Small laws on the evaluator's primitives: how printed equations are read.
-/
import Derived.Test.YtnchnnbggfeknaaDoorEvSound
import Derived.IntWalk
set_option linter.unusedVariables false
set_option linter.unusedSimpArgs false
namespace Nt.Ev
open Go

theorem sel_if {α : Type} (c : Bool) (a b : α) : sel c a b = if c = true then a else b := by cases c <;> rfl
theorem sel_pos {α : Type} {c : Bool} {a b : α} (h : c = true) : sel c a b = a := by subst h; rfl
theorem sel_neg {α : Type} {c : Bool} {a b : α} (h : c = false) : sel c a b = b := by subst h; rfl
theorem ilt_iff (a b : Int) : (ilt a b = true) = (a < b) := by unfold ilt; simp
theorem ile_iff (a b : Int) : (ile a b = true) = (a ≤ b) := by unfold ile; simp
theorem ieq_iff (a b : Int) : (ieq a b = true) = (a = b) := by unfold ieq; simp
theorem nle_iff (a b : Nat) : (nle a b = true) = (a ≤ b) := by unfold nle; simp
theorem band_iff (a b : Bool) : (band a b = true) = (a = true ∧ b = true) := by cases a <;> cases b <;> simp [band]
theorem bnot_iff (a : Bool) : (bnot a = true) = ¬ (a = true) := by cases a <;> simp [bnot]
theorem beq_iff (a b : Bool) : (beq a b = true) = (a = b) := by unfold beq; simp
theorem seq_iff (a b : List UInt8) : (seq a b = true) = (a = b) := by unfold seq; simp
theorem okCat_iff (a b : List UInt8) : (okCat a b = true) = (a.length + b.length ≤ 1152921504606846976) := by unfold okCat; rw [nle_iff]
theorem okStr_iff (a : List UInt8) : (okStr a = true) = (a.length ≤ 1152921504606846976) := by unfold okStr; rw [nle_iff]
theorem okApp_iff (a b : List V) : (okApp a b = true) = (a.length + b.length ≤ 16777216) := by unfold okApp; rw [nle_iff]
theorem okNew_iff (a : List V) : (okNew a = true) = (a.length ≤ 16777216) := by unfold okNew; rw [nle_iff]
theorem tru_iff : (true = true) = True := by simp
theorem fls_iff : (false = true) = False := by simp

theorem ilt_t {a b : Int} (h : a < b) : ilt a b = true := by rw [ilt_iff]; exact h
theorem ilt_f {a b : Int} (h : b ≤ a) : ilt a b = false := by unfold ilt; simp; omega
theorem ile_t {a b : Int} (h : a ≤ b) : ile a b = true := by rw [ile_iff]; exact h
theorem ile_f {a b : Int} (h : b < a) : ile a b = false := by unfold ile; simp; omega
theorem ieq_t {a b : Int} (h : a = b) : ieq a b = true := by rw [ieq_iff]; exact h
theorem ieq_f {a b : Int} (h : a ≠ b) : ieq a b = false := by unfold ieq; simpa using h

theorem iadd64 {a b : Int} (h : -9223372036854775808 ≤ a + b ∧ a + b ≤ 9223372036854775807) : iadd .i64 a b = a + b := IntWalk.i64_in _ h
theorem isub64 {a b : Int} (h : -9223372036854775808 ≤ a - b ∧ a - b ≤ 9223372036854775807) : isub .i64 a b = a - b := IntWalk.i64_in _ h
theorem imul64 {a b : Int} (h : -9223372036854775808 ≤ a * b ∧ a * b ≤ 9223372036854775807) : imul .i64 a b = a * b := IntWalk.i64_in _ h
theorem iaddu64 {a b : Int} (h : 0 ≤ a + b ∧ a + b ≤ 18446744073709551615) : iadd .u64 a b = a + b := IntWalk.u64_in _ h
theorem isubu64 {a b : Int} (h : 0 ≤ a - b ∧ a - b ≤ 18446744073709551615) : isub .u64 a b = a - b := IntWalk.u64_in _ h
theorem imulu64 {a b : Int} (h : 0 ≤ a * b ∧ a * b ≤ 18446744073709551615) : imul .u64 a b = a * b := IntWalk.u64_in _ h
theorem icnvu64 {a : Int} (h : 0 ≤ a ∧ a ≤ 18446744073709551615) : icnv .u64 a = a := IntWalk.u64_in _ h
theorem icnv64 {a : Int} (h : -9223372036854775808 ≤ a ∧ a ≤ 9223372036854775807) : icnv .i64 a = a := IntWalk.i64_in _ h
theorem icnvu8 {a : Int} (h : 0 ≤ a ∧ a ≤ 255) : icnv .u8 a = a := IntWalk.u8_in _ h
theorem iaddu8 {a b : Int} (h : 0 ≤ a + b ∧ a + b ≤ 255) : iadd .u8 a b = a + b := IntWalk.u8_in _ h
theorem isubu8 {a b : Int} (h : 0 ≤ a - b ∧ a - b ≤ 255) : isub .u8 a b = a - b := IntWalk.u8_in _ h
theorem iquo_pos {k : IntKind} {a b : Int} (ha : 0 ≤ a) (hw : k.wrap (a / b) = a / b) : iquo k a b = a / b := by
  unfold iquo; rw [Int.tdiv_eq_ediv_of_nonneg ha]; exact hw
theorem div_le_self {a b : Int} (ha : 0 ≤ a) (hb : 0 < b) : 0 ≤ a / b ∧ a / b ≤ a := ⟨Int.ediv_nonneg ha (by omega), Int.ediv_le_self b ha⟩
theorem iquo64 {a b : Int} (ha : 0 ≤ a) (hb : 0 < b) (h : a ≤ 9223372036854775807) : iquo .i64 a b = a / b :=
  iquo_pos ha (IntWalk.i64_in _ (by have := div_le_self ha hb; omega))
theorem iquou64 {a b : Int} (ha : 0 ≤ a) (hb : 0 < b) (h : a ≤ 18446744073709551615) : iquo .u64 a b = a / b :=
  iquo_pos ha (IntWalk.u64_in _ (by have := div_le_self ha hb; omega))
theorem irem_pos {a b : Int} (ha : 0 ≤ a) : irem a b = a % b := Int.tmod_eq_emod_of_nonneg ha

theorem slen_nat (l : List UInt8) : slen l = (l.length : Int) := rfl
theorem llen_nat (l : List V) : llen l = (l.length : Int) := rfl
theorem sat_nat (l : List UInt8) (i : Nat) : sat l (i : Int) = ((l.getD i 0).toNat : Int) := rfl
theorem ssub_nat (l : List UInt8) (a b : Nat) : ssub l (a : Int) (b : Int) = (l.drop a).take (b - a) := rfl
theorem lget_nat (l : List V) (i : Nat) : lget l (i : Int) = l.getD i .any := rfl

/-- The printed tests, as propositions. -/
theorem sat_lt (l : List UInt8) (i : Int) : 0 ≤ sat l i ∧ sat l i ≤ 255 := by
  unfold sat
  have := (l.getD i.toNat 0).toNat_lt
  omega

/-- What a spec asks holds: so its answer. -/
theorem spec_str {sp : FSpec} {f : List UInt8 → Option (Bool × V)} : True := trivial

/-- A contract holds where more globals are listed, too. -/
theorem Contract.env {E E' : Env} {f : Nat} {args : List V} {r : V} (hP : E.P = E'.P) (h : ∀ n v, E.glob n = some v → E'.glob n = some v) (c : Contract E f args r) : Contract E' f args r := by
  intro G w vs hG hg hp
  have := c G w vs hG (fun n v hv => hg n v (h n v hv)) hp
  rw [hP] at this
  exact this
end Nt.Ev
