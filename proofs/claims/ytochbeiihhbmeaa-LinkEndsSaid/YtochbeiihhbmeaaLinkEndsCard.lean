/-
  LinkEnds, the row: for every input the law returns true, and each argument reads afterwards as before; its listed variables are tied to the program's text.
-/
import Derived.Test.YtochbeiihhbmeaaRows
import Derived.Lay
import Derived.Test.YtochbeiihhbmeaaMR
import Derived.Test.YtochbeiihhbmeaaMBB
import Derived.Test.YtochbeiihhbmeaaMZ
import Derived.Test.YtochbeiihhbmeaaMC
set_option linter.unusedVariables false
set_option linter.unusedSimpArgs false
namespace Go.Proofs.Ytochbeiihhbmeaa.linkEnds
open Nt.Ev Nt.Ev.Ytochbeiihhbmeaa Go.ChangeShapes Go.WideShapes Go.ChangeAt Go.RowKit Nt Nt.Num
open Go.ChangeMaps (open_string shut_string)

theorem own : ownKnob Try.prog.godebug = none := by kernel_rfl
theorem laidOut : laidOutB Try.prog = true := by kernel_rfl

theorem globs {W : World} : GlobOk oE (heapG W) := fun n v hv => by cases hv

noncomputable abbrev sp : OpenSpec := OpenSpec.ofChange Rows.linkEndsSpec
theorem witness_row (os : Os) {H : Type} (enc : TypeId × Value → H) :
    sp.preRow enc Try.prog Try.f7 [] false Rows.linkEndsRow.laid ((World.laidAll Try.prog os Rows.linkEndsRow.laid).forCall (fun _ _ => 0) ⟨#[], #[.agg #[.string ⟨#[]⟩, .string ⟨#[]⟩], .slice none 0 0, .string ⟨#[]⟩], []⟩).memory #[.agg #[.string ⟨#[]⟩, .string ⟨#[]⟩], .slice none 0 0, .string ⟨#[]⟩] := by
  have hw : (DataW.whole enc Try.prog ((World.laidAll Try.prog os Rows.linkEndsRow.laid).forCall (fun _ _ => 0) ⟨#[], #[.agg #[.string ⟨#[]⟩, .string ⟨#[]⟩], .slice none 0 0, .string ⟨#[]⟩], []⟩).memory Try.f7.params.toList sp.vars false (#[.agg #[.string ⟨#[]⟩, .string ⟨#[]⟩], .slice none 0 0, .string ⟨#[]⟩] : Array Value).toList 8).map (fun x => (x.1, x.2.1)) =
      some ([.agg [.lit (.string []), .lit (.string [])], .nil, .lit (.string [])], []) := by kernel_rfl
  obtain ⟨⟨x1, x2, x3⟩, hx, hx1⟩ := Option.map_eq_some_iff.1 hw
  simp only [Prod.mk.injEq] at hx1
  obtain ⟨rfl, rfl⟩ := hx1
  exact OpenSpec.preRow_of_cond 8 hx (by kernel_rfl) (fun k hk => by cases hk) (by kernel_rfl) (by rw [MakeChecks.laidMetH_plain _ _ _ (by kernel_rfl)]; exact laidMet_laidAll _ (by kernel_rfl) (by kernel_rfl))
set_option maxRecDepth 100000 in
theorem lifted (os : Os) (started : os.Started) (H : Type) (enc : TypeId × Value → H) (F : Stop.Interp) :
    ReturnsInHanded {} Try.checked os 7 .any (sp.preRow enc Try.prog Try.f7 [] false Rows.linkEndsRow.laid) ((sp.at F).post enc Try.prog Try.f7 false true false false) := by
  refine returnsInHanded_of_row (C := Try.checked) (s := sp) own started (by kernel_rfl) Try.func7
    (witness_row_shaped (enc := enc) (C := Try.checked) (World.laidAll Try.prog os Rows.linkEndsRow.laid) #[.agg #[.string ⟨#[]⟩, .string ⟨#[]⟩], .slice none 0 0, .string ⟨#[]⟩] (World.laidAll_os _ _ _) (World.shaped_of_ZipB (by kernel_rfl) (by kernel_rfl)) (by kernel_rfl) (witness_row os enc)) ?_
  intro W base args ds gs before hval0 hW _ hcond0 hsz0 hL hS _
  clear hcond0
  have hval : ∀ (j : Nat) t v, Try.f7.params[j]? = some t → args[j]? = some v → Value.okWide Try.prog W .any base t v := hval0
  have hW' := hW
  obtain ⟨p, q, hA0, hV, rfl, hfz, hnd⟩ := hW
  have hA : DataW.TrodAll enc Try.prog W 0 (fun _ => true) true Try.f7.params.toList args.toList ds p := hA0
  rw [Try.params7] at hA hval
  have hAll := hA
  obtain ⟨v0, vs0, d0, ds0, p0, q0, hargs, rfl, rfl, h0, r0⟩ := trodAll_cons hA
  obtain ⟨v1, vs1, d1, ds1, p1, q1, rfl, rfl, rfl, h1, r1⟩ := trodAll_cons r0
  obtain ⟨v2, vs2, d2, ds2, p2, q2, rfl, rfl, rfl, h2, r2⟩ := trodAll_cons r1
  obtain ⟨rfl, rfl, rfl⟩ := trodAll_nil r2
  obtain rfl : args = #[v0, v1, v2] := by cases args; simp_all
  obtain ⟨rfl, rfl⟩ := trodVars_none hV
  obtain ⟨a0, xs0, rfl, hp0, hf0, ho0⟩ := open_fit (sh := [.str, .str]) (by kernel_rfl) (by kernel_rfl) (by kernel_rfl) (hval 0 37 v0 rfl rfl) h0
  obtain ⟨a0_0, t0_0, rfl, w0_0, hf0, ho0⟩ := fitsL_str hf0 ho0
  obtain ⟨a0_1, t0_1, rfl, w0_1, hf0, ho0⟩ := fitsL_str hf0 ho0
  obtain rfl := fitsL_nil hf0
  obtain ⟨sa1, sl1, sc1, rfl⟩ := okWide_slice Try.underlying38 (hval 1 38 v1 rfl rfl)
  obtain ⟨xs1, hr1, hn1, hx1⟩ := open_slice2 (e := 37) (sh := [.str, .str]) (by kernel_rfl) (by kernel_rfl) h1
  have hx1 := aggs_of (by kernel_rfl) hx1
  obtain ⟨a2, rfl, rfl, _, w2⟩ := open_string Try.underlying9 (hval 2 9 v2 rfl rfl) h2
  clear hA0 hval0
  refine (contract_row (E := oE) (args := [.agg [.str a0_0, .str a0_1], .sl 37 [.str, .str] none xs1, .str a2.data.toList]) (vs := [.agg a0, .slice sa1 sl1 sc1, .string a2]) (Lk.lk_E a0_0 a0_1 xs1 a2.data.toList (Lk.links_of hx1) (Lk.size_len w2)) globs (.cons (by unfold rep; exact ⟨a0.toList, by simp, (repL_iff _ _).2 hp0⟩) (.cons hr1 (.cons (by unfold rep; cases a2; simp) .nil)))).mono fun e W' ⟨he, bel⟩ => ?_
  subst he
  exact ⟨_, rfl, _, _, _, [], _, [], hW', trodAll_mk1 (shut_bool Try.underlying4 _), trodAll_below laidOut bel _ _ _ _ (by kernel_rfl) hAll, rfl, bel.frame _, fun h => by cases h⟩

theorem over : Rows.LinkEndsSaid :=
  OpenClaim.holds_of_cond 7 Try.f7 rfl rfl rfl rfl rfl rfl rfl ⟨rfl, rfl, rfl, rfl, rfl⟩ rfl rfl rfl rfl rfl (by kernel_rfl) Try.func7 (by kernel_rfl)
    (of_decide_eq_true (by kernel_rfl)) (by unfold Func.isWrapper; rw [if_neg (of_decide_eq_false (by kernel_rfl))]; exact ⟨rfl, rfl⟩)
    (fun os started H enc _ F0 => by rw [OpenClaim.pre_eq_preRow]; exact lifted os started H enc F0)

#print axioms over
end Go.Proofs.Ytochbeiihhbmeaa.linkEnds
