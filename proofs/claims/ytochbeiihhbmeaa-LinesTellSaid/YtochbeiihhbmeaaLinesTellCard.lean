/-
  LinesTell, the row: for every input the law returns true, and each argument reads afterwards as before; its listed variables are tied to the program's text.
-/
import Derived.Test.YtochbeiihhbmeaaRows
import Derived.Lay
import Derived.Test.YtochbeiihhbmeaaMQ
import Derived.Test.YtochbeiihhbmeaaMBB
import Derived.Test.YtochbeiihhbmeaaMZ
import Derived.Test.YtochbeiihhbmeaaMC
set_option linter.unusedVariables false
set_option linter.unusedSimpArgs false
namespace Go.Proofs.Ytochbeiihhbmeaa.linesTell
open Nt.Ev Nt.Ev.Ytochbeiihhbmeaa Go.ChangeShapes Go.WideShapes Go.ChangeAt Go.RowKit Nt Nt.Num
open Go.ChangeMaps (open_string shut_string)

theorem own : ownKnob Try.prog.godebug = none := by kernel_rfl
theorem laidOut : laidOutB Try.prog = true := by kernel_rfl

theorem globs {W : World} : GlobOk vE (heapG W) := fun n v hv => by cases hv

noncomputable abbrev sp : OpenSpec := OpenSpec.ofChange Rows.linesTellSpec
theorem witness_row (os : Os) {H : Type} (enc : TypeId × Value → H) :
    sp.preRow enc Try.prog Try.f3 [] false Rows.linesTellRow.laid ((World.laidAll Try.prog os Rows.linesTellRow.laid).forCall (fun _ _ => 0) ⟨#[], #[.string ⟨#[]⟩, .string ⟨#[]⟩, .slice none 0 0], []⟩).memory #[.string ⟨#[]⟩, .string ⟨#[]⟩, .slice none 0 0] := by
  have hw : (DataW.whole enc Try.prog ((World.laidAll Try.prog os Rows.linesTellRow.laid).forCall (fun _ _ => 0) ⟨#[], #[.string ⟨#[]⟩, .string ⟨#[]⟩, .slice none 0 0], []⟩).memory Try.f3.params.toList sp.vars false (#[.string ⟨#[]⟩, .string ⟨#[]⟩, .slice none 0 0] : Array Value).toList 8).map (fun x => (x.1, x.2.1)) =
      some ([.lit (.string []), .lit (.string []), .nil], []) := by kernel_rfl
  obtain ⟨⟨x1, x2, x3⟩, hx, hx1⟩ := Option.map_eq_some_iff.1 hw
  simp only [Prod.mk.injEq] at hx1
  obtain ⟨rfl, rfl⟩ := hx1
  exact OpenSpec.preRow_of_cond 8 hx (by kernel_rfl) (fun k hk => by cases hk) (by kernel_rfl) (by rw [MakeChecks.laidMetH_plain _ _ _ (by kernel_rfl)]; exact laidMet_laidAll _ (by kernel_rfl) (by kernel_rfl))
set_option maxRecDepth 100000 in
theorem lifted (os : Os) (started : os.Started) (H : Type) (enc : TypeId × Value → H) (F : Stop.Interp) :
    ReturnsInHanded {} Try.checked os 3 .any (sp.preRow enc Try.prog Try.f3 [] false Rows.linesTellRow.laid) ((sp.at F).post enc Try.prog Try.f3 false true false false) := by
  refine returnsInHanded_of_row (C := Try.checked) (s := sp) own started (by kernel_rfl) Try.func3
    (witness_row_shaped (enc := enc) (C := Try.checked) (World.laidAll Try.prog os Rows.linesTellRow.laid) #[.string ⟨#[]⟩, .string ⟨#[]⟩, .slice none 0 0] (World.laidAll_os _ _ _) (World.shaped_of_ZipB (by kernel_rfl) (by kernel_rfl)) (by kernel_rfl) (witness_row os enc)) ?_
  intro W base args ds gs before hval0 hW _ hcond0 hsz0 hL hS _
  clear hcond0
  have hval : ∀ (j : Nat) t v, Try.f3.params[j]? = some t → args[j]? = some v → Value.okWide Try.prog W .any base t v := hval0
  have hW' := hW
  obtain ⟨p, q, hA0, hV, rfl, hfz, hnd⟩ := hW
  have hA : DataW.TrodAll enc Try.prog W 0 (fun _ => true) true Try.f3.params.toList args.toList ds p := hA0
  rw [Try.params3] at hA hval
  have hAll := hA
  obtain ⟨v0, vs0, d0, ds0, p0, q0, hargs, rfl, rfl, h0, r0⟩ := trodAll_cons hA
  obtain ⟨v1, vs1, d1, ds1, p1, q1, rfl, rfl, rfl, h1, r1⟩ := trodAll_cons r0
  obtain ⟨v2, vs2, d2, ds2, p2, q2, rfl, rfl, rfl, h2, r2⟩ := trodAll_cons r1
  obtain ⟨rfl, rfl, rfl⟩ := trodAll_nil r2
  obtain rfl : args = #[v0, v1, v2] := by cases args; simp_all
  obtain ⟨rfl, rfl⟩ := trodVars_none hV
  obtain ⟨a0, rfl, rfl, _, w0⟩ := open_string Try.underlying9 (hval 0 9 v0 rfl rfl) h0
  obtain ⟨a1, rfl, rfl, _, w1⟩ := open_string Try.underlying9 (hval 1 9 v1 rfl rfl) h1
  obtain ⟨sa2, sl2, sc2, rfl⟩ := okWide_slice Try.underlying22 (hval 2 22 v2 rfl rfl)
  obtain ⟨xs2, hr2, hn2, hx2⟩ := open_slice2 (e := 9) (sh := [.str]) (by kernel_rfl) (by kernel_rfl) h2
  have hx2 := strs_of (by kernel_rfl) hx2
  clear hA0 hval0
  refine (contract_row (E := vE) (args := [.str a0.data.toList, .str a1.data.toList, .sl 9 [.str] none xs2]) (vs := [.string a0, .string a1, .slice sa2 sl2 sc2]) (lT_ev a0.data.toList a1.data.toList xs2) globs (.cons (by unfold rep; cases a0; simp) (.cons (by unfold rep; cases a1; simp) (.cons hr2 .nil)))).mono fun e W' ⟨he, bel⟩ => ?_
  subst he
  exact ⟨_, rfl, _, _, _, [], _, [], hW', trodAll_mk1 (shut_bool Try.underlying4 _), trodAll_below laidOut bel _ _ _ _ (by kernel_rfl) hAll, rfl, bel.frame _, fun h => by cases h⟩

theorem over : Rows.LinesTellSaid :=
  OpenClaim.holds_of_cond 3 Try.f3 rfl rfl rfl rfl rfl rfl rfl ⟨rfl, rfl, rfl, rfl, rfl⟩ rfl rfl rfl rfl rfl (by kernel_rfl) Try.func3 (by kernel_rfl)
    (of_decide_eq_true (by kernel_rfl)) (by unfold Func.isWrapper; rw [if_neg (of_decide_eq_false (by kernel_rfl))]; exact ⟨rfl, rfl⟩)
    (fun os started H enc _ F0 => by rw [OpenClaim.pre_eq_preRow]; exact lifted os started H enc F0)

#print axioms over
end Go.Proofs.Ytochbeiihhbmeaa.linesTell
