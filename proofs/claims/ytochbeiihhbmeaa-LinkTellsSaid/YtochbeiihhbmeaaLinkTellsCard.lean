/-
  LinkTells, the row: for every input the law returns true, and each argument reads afterwards as before; its listed variables are tied to the program's text.
-/
import Derived.Test.YtochbeiihhbmeaaRows
import Derived.Lay
import Derived.Test.YtochbeiihhbmeaaMR
import Derived.Test.YtochbeiihhbmeaaMBB
import Derived.Test.YtochbeiihhbmeaaMZ
import Derived.Test.YtochbeiihhbmeaaMC
set_option linter.unusedVariables false
set_option linter.unusedSimpArgs false
namespace Go.Proofs.Ytochbeiihhbmeaa.linkTells
open Nt.Ev Nt.Ev.Ytochbeiihhbmeaa Go.ChangeShapes Go.WideShapes Go.ChangeAt Go.RowKit Nt Nt.Num
open Go.ChangeMaps (open_string shut_string)

theorem own : ownKnob Try.prog.godebug = none := by kernel_rfl
theorem laidOut : laidOutB Try.prog = true := by kernel_rfl

theorem globs {W : World} : GlobOk oE (heapG W) := fun n v hv => by cases hv

noncomputable abbrev sp : OpenSpec := OpenSpec.ofChange Rows.linkTellsSpec
theorem witness_row (os : Os) {H : Type} (enc : TypeId × Value → H) :
    sp.preRow enc Try.prog Try.f6 [] false Rows.linkTellsRow.laid ((World.laidAll Try.prog os Rows.linkTellsRow.laid).forCall (fun _ _ => 0) ⟨#[], #[.slice none 0 0, .agg #[.string ⟨#[]⟩, .string ⟨#[]⟩], .slice none 0 0, .string ⟨#[]⟩], []⟩).memory #[.slice none 0 0, .agg #[.string ⟨#[]⟩, .string ⟨#[]⟩], .slice none 0 0, .string ⟨#[]⟩] := by
  have hw : (DataW.whole enc Try.prog ((World.laidAll Try.prog os Rows.linkTellsRow.laid).forCall (fun _ _ => 0) ⟨#[], #[.slice none 0 0, .agg #[.string ⟨#[]⟩, .string ⟨#[]⟩], .slice none 0 0, .string ⟨#[]⟩], []⟩).memory Try.f6.params.toList sp.vars false (#[.slice none 0 0, .agg #[.string ⟨#[]⟩, .string ⟨#[]⟩], .slice none 0 0, .string ⟨#[]⟩] : Array Value).toList 8).map (fun x => (x.1, x.2.1)) =
      some ([.nil, .agg [.lit (.string []), .lit (.string [])], .nil, .lit (.string [])], []) := by kernel_rfl
  obtain ⟨⟨x1, x2, x3⟩, hx, hx1⟩ := Option.map_eq_some_iff.1 hw
  simp only [Prod.mk.injEq] at hx1
  obtain ⟨rfl, rfl⟩ := hx1
  exact OpenSpec.preRow_of_cond 8 hx (by kernel_rfl) (fun k hk => by cases hk) (by kernel_rfl) (by rw [MakeChecks.laidMetH_plain _ _ _ (by kernel_rfl)]; exact laidMet_laidAll _ (by kernel_rfl) (by kernel_rfl))
set_option maxRecDepth 100000 in
theorem lifted (os : Os) (started : os.Started) (H : Type) (enc : TypeId × Value → H) (F : Stop.Interp) :
    ReturnsInHanded {} Try.checked os 6 .any (sp.preRow enc Try.prog Try.f6 [] false Rows.linkTellsRow.laid) ((sp.at F).post enc Try.prog Try.f6 false true false false) := by
  refine returnsInHanded_of_row (C := Try.checked) (s := sp) own started (by kernel_rfl) Try.func6
    (witness_row_shaped (enc := enc) (C := Try.checked) (World.laidAll Try.prog os Rows.linkTellsRow.laid) #[.slice none 0 0, .agg #[.string ⟨#[]⟩, .string ⟨#[]⟩], .slice none 0 0, .string ⟨#[]⟩] (World.laidAll_os _ _ _) (World.shaped_of_ZipB (by kernel_rfl) (by kernel_rfl)) (by kernel_rfl) (witness_row os enc)) ?_
  intro W base args ds gs before hval0 hW _ hcond0 hsz0 hL hS _
  clear hcond0
  have hval : ∀ (j : Nat) t v, Try.f6.params[j]? = some t → args[j]? = some v → Value.okWide Try.prog W .any base t v := hval0
  have hW' := hW
  obtain ⟨p, q, hA0, hV, rfl, hfz, hnd⟩ := hW
  have hA : DataW.TrodAll enc Try.prog W 0 (fun _ => true) true Try.f6.params.toList args.toList ds p := hA0
  rw [Try.params6] at hA hval
  have hAll := hA
  obtain ⟨v0, vs0, d0, ds0, p0, q0, hargs, rfl, rfl, h0, r0⟩ := trodAll_cons hA
  obtain ⟨v1, vs1, d1, ds1, p1, q1, rfl, rfl, rfl, h1, r1⟩ := trodAll_cons r0
  obtain ⟨v2, vs2, d2, ds2, p2, q2, rfl, rfl, rfl, h2, r2⟩ := trodAll_cons r1
  obtain ⟨v3, vs3, d3, ds3, p3, q3, rfl, rfl, rfl, h3, r3⟩ := trodAll_cons r2
  obtain ⟨rfl, rfl, rfl⟩ := trodAll_nil r3
  obtain rfl : args = #[v0, v1, v2, v3] := by cases args; simp_all
  obtain ⟨rfl, rfl⟩ := trodVars_none hV
  obtain ⟨sa0, sl0, sc0, rfl⟩ := okWide_slice Try.underlying22 (hval 0 22 v0 rfl rfl)
  obtain ⟨xs0, hr0, hn0, hx0⟩ := open_slice2 (e := 9) (sh := [.str]) (by kernel_rfl) (by kernel_rfl) h0
  have hx0 := strs_of (by kernel_rfl) hx0
  obtain ⟨a1, xs1, rfl, hp1, hf1, ho1⟩ := open_fit (sh := [.str, .str]) (by kernel_rfl) (by kernel_rfl) (by kernel_rfl) (hval 1 37 v1 rfl rfl) h1
  obtain ⟨a1_0, t1_0, rfl, w1_0, hf1, ho1⟩ := fitsL_str hf1 ho1
  obtain ⟨a1_1, t1_1, rfl, w1_1, hf1, ho1⟩ := fitsL_str hf1 ho1
  obtain rfl := fitsL_nil hf1
  obtain ⟨sa2, sl2, sc2, rfl⟩ := okWide_slice Try.underlying38 (hval 2 38 v2 rfl rfl)
  obtain ⟨xs2, hr2, hn2, hx2⟩ := open_slice2 (e := 37) (sh := [.str, .str]) (by kernel_rfl) (by kernel_rfl) h2
  have hx2 := aggs_of (by kernel_rfl) hx2
  obtain ⟨a3, rfl, rfl, _, w3⟩ := open_string Try.underlying9 (hval 3 9 v3 rfl rfl) h3
  clear hA0 hval0
  refine (contract_row (E := oE) (args := [.sl 9 [.str] none xs0, .agg [.str a1_0, .str a1_1], .sl 37 [.str, .str] none xs2, .str a3.data.toList]) (vs := [.slice sa0 sl0 sc0, .agg a1, .slice sa2 sl2 sc2, .string a3]) (Lk.lk_T xs0 a1_0 a1_1 xs2 a3.data.toList (Lk.links_of hx2) (Lk.size_len w3)) globs (.cons hr0 (.cons (by unfold rep; exact ⟨a1.toList, by simp, (repL_iff _ _).2 hp1⟩) (.cons hr2 (.cons (by unfold rep; cases a3; simp) .nil))))).mono fun e W' ⟨he, bel⟩ => ?_
  subst he
  exact ⟨_, rfl, _, _, _, [], _, [], hW', trodAll_mk1 (shut_bool Try.underlying4 _), trodAll_below laidOut bel _ _ _ _ (by kernel_rfl) hAll, rfl, bel.frame _, fun h => by cases h⟩

theorem over : Rows.LinkTellsSaid :=
  OpenClaim.holds_of_cond 6 Try.f6 rfl rfl rfl rfl rfl rfl rfl ⟨rfl, rfl, rfl, rfl, rfl⟩ rfl rfl rfl rfl rfl (by kernel_rfl) Try.func6 (by kernel_rfl)
    (of_decide_eq_true (by kernel_rfl)) (by unfold Func.isWrapper; rw [if_neg (of_decide_eq_false (by kernel_rfl))]; exact ⟨rfl, rfl⟩)
    (fun os started H enc _ F0 => by rw [OpenClaim.pre_eq_preRow]; exact lifted os started H enc F0)

#print axioms over
end Go.Proofs.Ytochbeiihhbmeaa.linkTells
