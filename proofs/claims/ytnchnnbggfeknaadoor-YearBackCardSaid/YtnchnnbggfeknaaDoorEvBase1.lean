/-
  Contracts of num.Read, of words.Match, and of the reference's, for the evaluator.
-/
import Derived.Test.YtnchnnbggfeknaaDoorEvOld
import Derived.Test.YtnchnnbggfeknaaDoorEvNum
import Derived.Test.YtnchnnbggfeknaaDoorNumRead
import Derived.Test.YtnchnnbggfeknaaDoorNumReadRB
import Derived.Test.YtnchnnbggfeknaaDoorWordsMatch
import Derived.Test.YtnchnnbggfeknaaDoorWordsMatchR
import Derived.Test.YtnchnnbggfeknaaDoorShelf
set_option linter.unusedVariables false
set_option linter.unusedSimpArgs false
namespace Nt.Ev.YtnchnnbggfeknaaDoor
open Go Go.RowKit Nt Nt.Num Go.Proofs.YtnchnnbggfeknaaDoor

def nrI (s : List UInt8) : Int := (Num.read s).1
def nrW (s : List UInt8) : Int := (Num.read s).2
theorem ba_size (s : List UInt8) : (⟨s.toArray⟩ : ByteArray).size = s.length := by simp [ByteArray.size]
theorem ba_max {s : List UInt8} (h : s.length ≤ 1000) : (⟨s.toArray⟩ : ByteArray).size ≤ maxLen := by rw [ba_size]; unfold maxLen; omega

theorem nRead_c (s : List UInt8) (h : s.length ≤ 1000) : Contract nE 114 [.str s] (.tup [.int .i64 (nrI s), .int .i64 (nrW s)]) := by
  refine contract_old fun G w vs hG hg hp => ?_
  obtain ⟨x, rfl, hx⟩ := PW_one hp
  unfold rep at hx
  subst hx
  refine (n_read ⟨s.toArray⟩ w (ba_max h)).mono ?_
  rintro e w' ⟨rfl, hb⟩
  exact ⟨_, rfl, hb, res_two (same_int _ _) (same_int _ _)⟩
theorem rRead_c (s : List UInt8) (h : s.length ≤ 1000) : Contract nE 116 [.str s] (.tup [.int .i64 (nrI s), .int .i64 (nrW s)]) := by
  refine contract_old fun G w vs hG hg hp => ?_
  obtain ⟨x, rfl, hx⟩ := PW_one hp
  unfold rep at hx
  subst hx
  refine (r_read ⟨s.toArray⟩ w (ba_max h)).mono ?_
  rintro e w' ⟨rfl, hb⟩
  exact ⟨_, rfl, by rw [hb]; exact Below.refl _ _, res_two (same_int _ _) (same_int _ _)⟩

/-- Words among a contract's arguments. -/
def wsOk (ws : List V) : Bool := decide (ws.length ≤ 1000) && ws.all fun v => match v with | .str l => decide (l.length ≤ 1000) | _ => false
def wsB (ws : List V) : List ByteArray := ws.map fun x => ⟨(asStr x).toArray⟩
def mtI (s : List UInt8) (ws : List V) : Int := ((Words.mt ⟨s.toArray⟩ (wsB ws)).1 : Int)
def mtW (s : List UInt8) (ws : List V) : Int := ((Words.mt ⟨s.toArray⟩ (wsB ws)).2 : Int)
theorem wsOk_spec {ws : List V} (h : wsOk ws = true) : ws.length ≤ 1000 ∧ ∀ x ∈ ws, ∃ l, x = .str l ∧ l.length ≤ 1000 := by
  unfold wsOk at h
  rw [Bool.and_eq_true, decide_eq_true_eq, List.all_eq_true] at h
  refine ⟨h.1, fun x hx => ?_⟩
  have := h.2 x hx
  cases x with
  | str l => exact ⟨l, rfl, by simpa using this⟩
  | _ => cases this

theorem wMatch_c (s : List UInt8) (e : Nat) (o : Option Nat) (ws : List V) (h : s.length ≤ 1000) (hw : wsOk ws = true) : Contract nE 115 [.str s, .sl e [.str] o ws] (.tup [.int .i64 (mtI s ws), .int .i64 (mtW s ws)]) := by
  obtain ⟨h1, h2⟩ := wsOk_spec hw
  refine contract_old fun G w vs hG hg hp => ?_
  obtain ⟨x, y, rfl, hx, hy⟩ := PW_two hp
  unfold rep at hx
  subst hx
  obtain ⟨p, cap, rfl, hS⟩ := rep_strs hG hy h2
  refine (w_match ⟨s.toArray⟩ p ws.length cap (wsB ws) w (ba_max h) hS (by omega)).mono ?_
  rintro e w' ⟨rfl, hb⟩
  exact ⟨_, rfl, hb, res_two (same_int _ _) (same_int _ _)⟩
theorem rMatch_c (s : List UInt8) (e : Nat) (o : Option Nat) (ws : List V) (h : s.length ≤ 1000) (hw : wsOk ws = true) : Contract nE 117 [.str s, .sl e [.str] o ws] (.tup [.int .i64 (mtI s ws), .int .i64 (mtW s ws)]) := by
  obtain ⟨h1, h2⟩ := wsOk_spec hw
  refine contract_old fun G w vs hG hg hp => ?_
  obtain ⟨x, y, rfl, hx, hy⟩ := PW_two hp
  unfold rep at hx
  subst hx
  obtain ⟨p, cap, rfl, hS⟩ := rep_strs hG hy h2
  refine (r_match ⟨s.toArray⟩ p ws.length cap (wsB ws) w (ba_max h) hS (by omega)).mono ?_
  rintro e w' ⟨rfl, hb⟩
  exact ⟨_, rfl, below_drew hb, res_two (same_int _ _) (same_int _ _)⟩

def idxB (s : List UInt8) (c : Int) : Int := Lib.indexByte s c.toNat.toUInt8
theorem idx_c (s : List UInt8) (c : Int) : Contract nE 113 [.str s, .int .u8 c] (.int .i64 (idxB s c)) := by
  refine contract_old fun G w vs hG hg hp => ?_
  obtain ⟨x, y, rfl, hx, hy⟩ := PW_two hp
  unfold rep at hx hy
  subst hx; subst hy
  refine (Go.Proofs.Tryd.strings_IndexByte ⟨s.toArray⟩ c w).mono ?_
  rintro e w' ⟨rfl, rfl⟩
  exact ⟨_, rfl, Below.refl _ _, res_int _ _⟩
end Nt.Ev.YtnchnnbggfeknaaDoor
