/-
  SeamTells, the row: for every input the law returns true, and each argument reads afterwards as before; its listed variables are tied to the program's text.
-/
import Derived.Test.YtjobobdijjppkaaRows
import Derived.Lay
import Derived.Test.YtjobobdijjppkaaMVV
import Derived.Test.YtjobobdijjppkaaMBB
import Derived.Test.YtjobobdijjppkaaMZ
import Derived.Test.YtjobobdijjppkaaMC
set_option linter.unusedVariables false
set_option linter.unusedSimpArgs false
namespace Go.Proofs.Ytjobobdijjppkaa.seamTells
open Nt.Ev Nt.Ev.Ytjobobdijjppkaa Go.ChangeShapes Go.WideShapes Go.ChangeAt Go.RowKit Nt Nt.Num
open Go.ChangeMaps (open_string shut_string)

theorem own : ownKnob Try.prog.godebug = none := by kernel_rfl
theorem laidOut : laidOutB Try.prog = true := by kernel_rfl

theorem globs {W : World} : GlobOk Sp.sE (heapG W) := fun n v hv => by cases hv

noncomputable abbrev sp : OpenSpec := OpenSpec.ofChange Rows.seamTellsSpec
theorem witness_row (os : Os) {H : Type} (enc : TypeId × Value → H) :
    sp.preRow enc Try.prog Try.f6 [] false Rows.seamTellsRow.laid ((World.laidAll Try.prog os Rows.seamTellsRow.laid).forCall (fun _ _ => 0) ⟨#[], #[.slice none 0 0, .slice none 0 0, .agg #[.int .i64 0, .int .i64 0]], []⟩).memory #[.slice none 0 0, .slice none 0 0, .agg #[.int .i64 0, .int .i64 0]] := by
  have hw : (DataW.whole enc Try.prog ((World.laidAll Try.prog os Rows.seamTellsRow.laid).forCall (fun _ _ => 0) ⟨#[], #[.slice none 0 0, .slice none 0 0, .agg #[.int .i64 0, .int .i64 0]], []⟩).memory Try.f6.params.toList sp.vars false (#[.slice none 0 0, .slice none 0 0, .agg #[.int .i64 0, .int .i64 0]] : Array Value).toList 8).map (fun x => (x.1, x.2.1)) =
      some ([.nil, .nil, .agg [.lit (.int .i64 0), .lit (.int .i64 0)]], []) := by kernel_rfl
  obtain ⟨⟨x1, x2, x3⟩, hx, hx1⟩ := Option.map_eq_some_iff.1 hw
  simp only [Prod.mk.injEq] at hx1
  obtain ⟨rfl, rfl⟩ := hx1
  exact OpenSpec.preRow_of_cond 8 hx (by kernel_rfl) (fun k hk => by cases hk) (by kernel_rfl) (by rw [MakeChecks.laidMetH_plain _ _ _ (by kernel_rfl)]; exact laidMet_laidAll _ (by kernel_rfl) (by kernel_rfl))
set_option maxRecDepth 100000 in
theorem lifted (os : Os) (started : os.Started) (H : Type) (enc : TypeId × Value → H) (F : Stop.Interp) :
    ReturnsInHanded {} Try.checked os 6 .any (sp.preRow enc Try.prog Try.f6 [] false Rows.seamTellsRow.laid) ((sp.at F).post enc Try.prog Try.f6 false true false false) := by
  refine returnsInHanded_of_row (C := Try.checked) (s := sp) own started (by kernel_rfl) Try.func6
    (witness_row_shaped (enc := enc) (C := Try.checked) (World.laidAll Try.prog os Rows.seamTellsRow.laid) #[.slice none 0 0, .slice none 0 0, .agg #[.int .i64 0, .int .i64 0]] (World.laidAll_os _ _ _) (World.shaped_of_ZipB (by kernel_rfl) (by kernel_rfl)) (by kernel_rfl) (witness_row os enc)) ?_
  intro W base args ds gs before hval0 hW _ hcond0 hsz0 hL hS _
  clear hcond0
  have hval : ∀ (j : Nat) t v, Try.f6.params[j]? = some t → args[j]? = some v → Value.okWide Try.prog W .any base t v := hval0
  have hW' := hW
  obtain ⟨p, q, hA0, hV, rfl, hfz, hnd⟩ := hW
  have hA : DataW.TrodAll enc Try.prog W 0 (fun _ => true) true Try.f6.params.toList args.toList ds p := hA0
  rw [Try.params6] at hA hval
  have hAll := hA
  obtain ⟨v0, vs0, d0, ds0, p0, q0, hargs, rfl, rfl, h0, r0⟩ := trodAll_cons hA
  obtain ⟨v1, vs1, d1, ds1, p1, q1, rfl, rfl, rfl, h1, r1⟩ := trodAll_cons r0
  obtain ⟨v2, vs2, d2, ds2, p2, q2, rfl, rfl, rfl, h2, r2⟩ := trodAll_cons r1
  obtain ⟨rfl, rfl, rfl⟩ := trodAll_nil r2
  obtain rfl : args = #[v0, v1, v2] := by cases args; simp_all
  obtain ⟨rfl, rfl⟩ := trodVars_none hV
  obtain ⟨sa0, sl0, sc0, rfl⟩ := okWide_slice Try.underlying39 (hval 0 39 v0 rfl rfl)
  obtain ⟨xs0, hr0, hn0, hx0⟩ := open_slice2 (e := 65) (sh := [.int .i64, .int .i64, .int .i64, .int .i64, .str]) (by kernel_rfl) (by kernel_rfl) h0
  have hx0 := aggs_of (by kernel_rfl) hx0
  obtain ⟨sa1, sl1, sc1, rfl⟩ := okWide_slice Try.underlying39 (hval 1 39 v1 rfl rfl)
  obtain ⟨xs1, hr1, hn1, hx1⟩ := open_slice2 (e := 65) (sh := [.int .i64, .int .i64, .int .i64, .int .i64, .str]) (by kernel_rfl) (by kernel_rfl) h1
  have hx1 := aggs_of (by kernel_rfl) hx1
  obtain ⟨a2, xs2, rfl, hp2, hf2, ho2⟩ := open_fit (sh := [.int .i64, .int .i64]) (by kernel_rfl) (by kernel_rfl) (by kernel_rfl) (hval 2 24 v2 rfl rfl) h2
  obtain ⟨a2_0, t2_0, rfl, w2_0, hf2, ho2⟩ := fitsL_int hf2 ho2
  obtain ⟨a2_1, t2_1, rfl, w2_1, hf2, ho2⟩ := fitsL_int hf2 ho2
  obtain rfl := fitsL_nil hf2
  clear hA0 hval0
  refine (contract_row (E := Sp.sE) (args := [.sl 65 [.int .i64, .int .i64, .int .i64, .int .i64, .str] none xs0, .sl 65 [.int .i64, .int .i64, .int .i64, .int .i64, .str] none xs1, .agg [.int .i64 a2_0, .int .i64 a2_1]]) (vs := [.slice sa0 sl0 sc0, .slice sa1 sl1 sc1, .agg a2]) (Sm.mg_T xs0 xs1 a2_0 a2_1) globs (.cons hr0 (.cons hr1 (.cons (by unfold rep; exact ⟨a2.toList, by simp, (repL_iff _ _).2 hp2⟩) .nil)))).mono fun e W' ⟨he, bel⟩ => ?_
  subst he
  exact ⟨_, rfl, _, _, _, [], _, [], hW', trodAll_mk1 (shut_bool Try.underlying4 _), trodAll_below laidOut bel _ _ _ _ (by kernel_rfl) hAll, rfl, bel.frame _, fun h => by cases h⟩

theorem over : Rows.SeamTellsSaid :=
  OpenClaim.holds_of_cond 6 Try.f6 rfl rfl rfl rfl rfl rfl rfl ⟨rfl, rfl, rfl, rfl, rfl⟩ rfl rfl rfl rfl rfl (by kernel_rfl) Try.func6 (by kernel_rfl)
    (of_decide_eq_true (by kernel_rfl)) (by unfold Func.isWrapper; rw [if_neg (of_decide_eq_false (by kernel_rfl))]; exact ⟨rfl, rfl⟩)
    (fun os started H enc _ F0 => by rw [OpenClaim.pre_eq_preRow]; exact lifted os started H enc F0)

#print axioms over
end Go.Proofs.Ytjobobdijjppkaa.seamTells
