/-
  Bld: equations of functions, as the evaluator prints them. A strings.Builder's copyCheck and String, as contracts.
-/
import Derived.Test.YteccmgkfmeoekaaGreatDoorMC
import Derived.Test.YteccmgkfmeoekaaGreatDoorMP
set_option linter.unusedVariables false
set_option linter.unusedSimpArgs false
set_option linter.unusedSectionVars false
namespace Nt.Ev.YteccmgkfmeoekaaGreatDoor
open Go Nt.Num Go.Proofs.YteccmgkfmeoekaaGreatDoor
noncomputable def bcOk : V → Bool | .nilp => true | .box k off => k == HL && off == 0 | _ => false
noncomputable def bbOk : V → Bool | .nilsl => true | .sl e sh (some L) xs => e == 5 && Kd.eqL [.int .u8] sh && L == 1000001002 | _ => false
noncomputable def bbS : V → List UInt8 | .sl _ _ _ xs => vbytes xs | _ => []
noncomputable def bbN : V → V | .sl e sh _ xs => .sl e sh none xs | v => v
noncomputable def bCpS : FSpec := fun a => match a with | [.bxa 0 [x, b]] => some (bcOk x, .out false (.tup []) [[.box HL 0, b]]) | _ => none
noncomputable def bStS : FSpec := fun a => match a with | [.bxa 0 [x, b]] => some (band (bcOk x) (bbOk b), .out false (.str (bbS b)) [[x, bbN b]]) | _ => none
end Nt.Ev.YteccmgkfmeoekaaGreatDoor

set_option linter.unusedVariables false
set_option linter.unusedSimpArgs false
set_option linter.unusedSectionVars false
namespace Nt.Ev.YteccmgkfmeoekaaGreatDoor
set_option maxRecDepth 100000
open Go Go.RowKit Nt Nt.Num Go.Proofs.YteccmgkfmeoekaaGreatDoor
theorem bc_cases {x : V} (h : bcOk x = true) : x = .nilp ∨ x = .box HL 0 := by
  unfold bcOk at h
  split at h
  · exact .inl rfl
  · rename_i k off
    rw [Bool.and_eq_true, beq_iff_eq, beq_iff_eq] at h
    rw [h.1, h.2]; exact .inr rfl
  · cases h
theorem bCpS_ok (x b : V) (hc : bcOk x = true) : XOk oE 67 [.bxa 0 [x, b]] (.out false (.tup []) [[.box HL 0, b]]) :=
  XOk.out (copy_xc rfl x b [] (bc_cases hc))
theorem bStS_ok (x b : V) (hc : band (bcOk x) (bbOk b) = true) : XOk oE 33 [.bxa 0 [x, b]] (.out false (.str (bbS b)) [[x, bbN b]]) := by
  obtain ⟨h1, h2⟩ := band_true hc
  refine XOk.out ?_
  unfold bbOk at h2
  split at h2
  · exact string_nil_xc rfl x []
  · rename_i e sh L xs
    rw [Bool.and_eq_true, Bool.and_eq_true, beq_iff_eq, beq_iff_eq] at h2
    obtain ⟨⟨rfl, h3⟩, rfl⟩ := h2
    have h3 := Kd.eqL_sound _ _ h3
    subst h3
    exact string_xc rfl x [] (by rcases bc_cases h1 with rfl | rfl <;> rfl) rfl xs
  · cases h2
theorem bcat (a b : List UInt8) : lcat (bytesV a) (bytesV b) = bytesV (a ++ b) := by unfold lcat bytesV; simp
theorem bvb (l : List UInt8) : vbytes (bytesV l) = l := by
  unfold vbytes bytesV
  rw [List.map_map]
  refine (List.map_congr_left fun c _ => ?_).trans (List.map_id l)
  show UInt8.ofNat ((c.toNat : Int)).toNat = c
  rw [Int.toNat_natCast]; exact UInt8.ofNat_toNat
theorem bnew (a : List UInt8) (h : a.length ≤ 16777216) : okNew (bytesV a) = true := by
  unfold okNew nle bytesV; rw [List.length_map]; exact decide_eq_true h
end Nt.Ev.YteccmgkfmeoekaaGreatDoor
