/-
  LinesLong, the row: for every input the law returns true, and each argument reads afterwards as before; its listed variables are tied to the program's text.
-/
import Derived.Test.YtochbeiihhbmeaaRows
import Derived.Lay
import Derived.Test.YtochbeiihhbmeaaMQ
import Derived.Test.YtochbeiihhbmeaaMBB
import Derived.Test.YtochbeiihhbmeaaMZ
import Derived.Test.YtochbeiihhbmeaaMC
set_option linter.unusedVariables false
set_option linter.unusedSimpArgs false
namespace Go.Proofs.Ytochbeiihhbmeaa.linesLong
open Nt.Ev Nt.Ev.Ytochbeiihhbmeaa Go.ChangeShapes Go.WideShapes Go.ChangeAt Go.RowKit Nt Nt.Num
open Go.ChangeMaps (open_string shut_string)

theorem own : ownKnob Try.prog.godebug = none := by kernel_rfl
theorem laidOut : laidOutB Try.prog = true := by kernel_rfl

theorem globs {W : World} : GlobOk vE (heapG W) := fun n v hv => by cases hv

noncomputable abbrev sp : OpenSpec := OpenSpec.ofChange Rows.linesLongSpec
theorem witness_row (os : Os) {H : Type} (enc : TypeId × Value → H) :
    sp.preRow enc Try.prog Try.f5 [] false Rows.linesLongRow.laid ((World.laidAll Try.prog os Rows.linesLongRow.laid).forCall (fun _ _ => 0) ⟨#[], #[.int .i64 0, .int .u8 0], []⟩).memory #[.int .i64 0, .int .u8 0] := by
  have hw : (DataW.whole enc Try.prog ((World.laidAll Try.prog os Rows.linesLongRow.laid).forCall (fun _ _ => 0) ⟨#[], #[.int .i64 0, .int .u8 0], []⟩).memory Try.f5.params.toList sp.vars false (#[.int .i64 0, .int .u8 0] : Array Value).toList 8).map (fun x => (x.1, x.2.1)) =
      some ([.lit (.int .i64 0), .lit (.int .u8 0)], []) := by kernel_rfl
  obtain ⟨⟨x1, x2, x3⟩, hx, hx1⟩ := Option.map_eq_some_iff.1 hw
  simp only [Prod.mk.injEq] at hx1
  obtain ⟨rfl, rfl⟩ := hx1
  exact OpenSpec.preRow_of_cond 8 hx (by kernel_rfl) (fun k hk => by cases hk) (by kernel_rfl) (by rw [MakeChecks.laidMetH_plain _ _ _ (by kernel_rfl)]; exact laidMet_laidAll _ (by kernel_rfl) (by kernel_rfl))
set_option maxRecDepth 100000 in
theorem lifted (os : Os) (started : os.Started) (H : Type) (enc : TypeId × Value → H) (F : Stop.Interp) :
    ReturnsInHanded {} Try.checked os 5 .any (sp.preRow enc Try.prog Try.f5 [] false Rows.linesLongRow.laid) ((sp.at F).post enc Try.prog Try.f5 false true false false) := by
  refine returnsInHanded_of_row (C := Try.checked) (s := sp) own started (by kernel_rfl) Try.func5
    (witness_row_shaped (enc := enc) (C := Try.checked) (World.laidAll Try.prog os Rows.linesLongRow.laid) #[.int .i64 0, .int .u8 0] (World.laidAll_os _ _ _) (World.shaped_of_ZipB (by kernel_rfl) (by kernel_rfl)) (by kernel_rfl) (witness_row os enc)) ?_
  intro W base args ds gs before hval0 hW _ hcond0 hsz0 hL hS _
  clear hcond0
  have hval : ∀ (j : Nat) t v, Try.f5.params[j]? = some t → args[j]? = some v → Value.okWide Try.prog W .any base t v := hval0
  have hW' := hW
  obtain ⟨p, q, hA0, hV, rfl, hfz, hnd⟩ := hW
  have hA : DataW.TrodAll enc Try.prog W 0 (fun _ => true) true Try.f5.params.toList args.toList ds p := hA0
  rw [Try.params5] at hA hval
  have hAll := hA
  obtain ⟨v0, vs0, d0, ds0, p0, q0, hargs, rfl, rfl, h0, r0⟩ := trodAll_cons hA
  obtain ⟨v1, vs1, d1, ds1, p1, q1, rfl, rfl, rfl, h1, r1⟩ := trodAll_cons r0
  obtain ⟨rfl, rfl, rfl⟩ := trodAll_nil r1
  obtain rfl : args = #[v0, v1] := by cases args; simp_all
  obtain ⟨rfl, rfl⟩ := trodVars_none hV
  obtain ⟨a0, rfl, rfl, _, w0⟩ := open_int Try.underlying3 (hval 0 3 v0 rfl rfl) h0
  obtain ⟨a1, rfl, rfl, _, w1⟩ := open_int Try.underlying5 (hval 1 5 v1 rfl rfl) h1
  clear hA0 hval0
  refine (contract_row (E := vE) (args := [.int .i64 a0, .int .u8 a1]) (vs := [.int .i64 a0, .int .u8 a1]) (lL_ev a0 a1 (bounds_i64 w0) (bounds_u8 w1)) globs (.cons (by unfold rep; rfl) (.cons (by unfold rep; rfl) .nil))).mono fun e W' ⟨he, bel⟩ => ?_
  subst he
  exact ⟨_, rfl, _, _, _, [], _, [], hW', trodAll_mk1 (shut_bool Try.underlying4 _), trodAll_below laidOut bel _ _ _ _ (by kernel_rfl) hAll, rfl, bel.frame _, fun h => by cases h⟩

theorem over : Rows.LinesLongSaid :=
  OpenClaim.holds_of_cond 5 Try.f5 rfl rfl rfl rfl rfl rfl rfl ⟨rfl, rfl, rfl, rfl, rfl⟩ rfl rfl rfl rfl rfl (by kernel_rfl) Try.func5 (by kernel_rfl)
    (of_decide_eq_true (by kernel_rfl)) (by unfold Func.isWrapper; rw [if_neg (of_decide_eq_false (by kernel_rfl))]; exact ⟨rfl, rfl⟩)
    (fun os started H enc _ F0 => by rw [OpenClaim.pre_eq_preRow]; exact lifted os started H enc F0)

#print axioms over
end Go.Proofs.Ytochbeiihhbmeaa.linesLong
