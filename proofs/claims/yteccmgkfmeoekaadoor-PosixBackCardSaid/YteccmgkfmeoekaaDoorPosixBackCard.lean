/-
  PosixBack, the row: for every input the law returns true, and each argument reads afterwards as before; its listed variables are tied to the program's text.
-/
import Derived.Test.YteccmgkfmeoekaaDoorRows
import Derived.Lay
import Derived.Test.YteccmgkfmeoekaaDoorCards
import Derived.Test.YteccmgkfmeoekaaDoorTie
import Derived.SevenTiedAt
import Derived.Test.YteccmgkfmeoekaaDoorMXC
import Derived.Test.YteccmgkfmeoekaaDoorMBB
import Derived.Test.YteccmgkfmeoekaaDoorMZ
import Derived.Test.YteccmgkfmeoekaaDoorMC
set_option linter.unusedVariables false
set_option linter.unusedSimpArgs false
namespace Go.Proofs.YteccmgkfmeoekaaDoor.posixBack
open Nt.Ev Nt.Ev.YteccmgkfmeoekaaDoor Go.ChangeShapes Go.WideShapes Go.ChangeAt Go.RowKit Nt Nt.Num
open Go.ChangeMaps (open_string shut_string)

theorem own : ownKnob Tryd.prog.godebug = none := by kernel_rfl
theorem laidOut : laidOutB Tryd.prog = true := by kernel_rfl

theorem globs {W : World} {m : Int} (h : laidMetH Tryd.prog Rows.posixBackRow.laid W) (hm : W.cell? ⟨3, 0, none⟩ = some (.int .i64 m)) : GlobOk (@aE ⟨m⟩) (heapG W) := by
  letI : MLen := ⟨m⟩
  rw [MakeChecks.laidMetH_plain _ _ _ (by kernel_rfl)] at h
  obtain ⟨ps, ⟨g0, t0, cs0, f0, p0, q0, hg0, ht0, hv0, hd0, ⟨g1, t1, cs1, f1, p1, q1, hg1, ht1, hv1, hd1, ⟨g2, t2, cs2, f2, p2, q2, hg2, ht2, hv2, hd2, _, _⟩, _⟩, _⟩, _, _⟩ := h
  obtain rfl := Option.some.inj ((show Tryd.prog.globalNamed "noontide/amount.parts" = some 2 by kernel_rfl).symm.trans hg1)
  obtain rfl := Option.some.inj ((show (Tryd.prog.globals[2]?).map (·.type) = some 223 by kernel_rfl).symm.trans ht1)
  intro n v hv
  unfold aE at hv
  simp only at hv
  cases e1 : n == 2 with
  | true =>
    rw [e1] at hv
    obtain rfl : n = 2 := by simpa using e1
    simp only [cond_true, cond_false, Option.some.injEq] at hv
    subst hv
    exact ⟨by kernel_rfl, glob_data (f := 8) hg1 hv1 hd1 (by kernel_rfl) (by kernel_rfl)⟩
  | false =>
    rw [e1] at hv
    cases em : n == 3 with
    | true =>
      rw [em] at hv
      obtain rfl : n = 3 := by simpa using em
      simp only [cond_true, cond_false, Option.some.injEq] at hv
      subst hv
      exact ⟨rfl, glob_cell hm⟩
    | false => rw [em] at hv; cases hv

set_option maxRecDepth 100000 in
theorem lifted (os : Os) (started : os.Started) (H : Type) (enc : TypeId × Value → H) :
    ReturnsInHanded {} Tryd.checked os 5 .any (fun w args => (Rows.posixBackSpec.pre enc Tryd.prog Tryd.f5 [] false w args ∧ laidMetH Tryd.prog Rows.posixBackRow.laid w) ∧ sizedMet enc Tryd.prog Tryd.f5 (OpenSpec.ofChange Rows.posixBackSpec) false w args)
      (Rows.posixBackSpec.post enc Tryd.prog Tryd.f5 false true false false) := by
  refine returnsInHanded_and_shaped (C := Tryd.checked) (X := fun w _ => laidMetH Tryd.prog Rows.posixBackRow.laid w) (fun _ _ _ hh h => h.of_heap hh) own started (by kernel_rfl) Tryd.func5
    (ChangeSpec.witness_shaped (enc := enc) (C := Tryd.checked) (os := os) (X := fun w _ => laidMetH Tryd.prog Rows.posixBackRow.laid w) false (World.laidAll Tryd.prog os Rows.posixBackRow.laid) #[.string ⟨#[]⟩, .agg #[.string ⟨#[]⟩, .int .i64 0, .string ⟨#[]⟩, .int .i64 0, .int .i64 0, .int .i64 0, .int .i64 0, .int .i64 0, .int .i64 0, .int .i64 0, .int .i64 0, .int .i64 0]] 8 (World.laidAll_os _ _ _) (World.shaped_of_ZipB (by kernel_rfl) (by kernel_rfl)) (by kernel_rfl) (by kernel_rfl) (by kernel_rfl)
      (by rw [MakeChecks.laidMetH_plain _ _ _ (by kernel_rfl)]; exact laidMet_laidAll _ (by kernel_rfl) (by kernel_rfl))) ?_
  intro W base args ds gs before hval0 hW _ hsz0 hL hS
  have hval : ∀ (j : Nat) t v, Tryd.f5.params[j]? = some t → args[j]? = some v → Value.okWide Tryd.prog W .any base t v := hval0
  have hsz : (DataW.weightsEach Tryd.prog (Tryd.f5.params.toList ++ Rows.posixBackSpec.plain.varTypes Tryd.prog) (ds ++ gs)).all (· ≤ reachBytes) = true := hsz0
  have hW' := hW
  obtain ⟨p, q, hA0, hV, rfl, hfz, hnd⟩ := hW
  have hA : DataW.TrodAll enc Tryd.prog W 0 (fun _ => true) true Tryd.f5.params.toList args.toList ds p := hA0
  rw [Tryd.params5] at hA hval hsz
  have hAll := hA
  obtain ⟨v0, vs0, d0, ds0, p0, q0, hargs, rfl, rfl, h0, r0⟩ := trodAll_cons hA
  obtain ⟨v1, vs1, d1, ds1, p1, q1, rfl, rfl, rfl, h1, r1⟩ := trodAll_cons r0
  obtain ⟨rfl, rfl, rfl⟩ := trodAll_nil r1
  obtain rfl : args = #[v0, v1] := by cases args; simp_all
  obtain ⟨rfl, rfl⟩ := trodVars_none hV
  obtain ⟨a0, rfl, rfl, _, w0⟩ := open_string Tryd.underlying9 (hval 0 9 v0 rfl rfl) h0
  obtain ⟨a1, xs1, rfl, hp1, hf1, ho1⟩ := open_fit (sh := [.str, .int .i64, .str, .int .i64, .int .i64, .int .i64, .int .i64, .int .i64, .int .i64, .int .i64, .int .i64, .int .i64]) (by kernel_rfl) (by kernel_rfl) (by kernel_rfl) (hval 1 59 v1 rfl rfl) h1
  obtain ⟨a1_0, t1_0, rfl, w1_0, hf1, ho1⟩ := fitsL_str hf1 ho1
  obtain ⟨a1_1, t1_1, rfl, w1_1, hf1, ho1⟩ := fitsL_int hf1 ho1
  obtain ⟨a1_2, t1_2, rfl, w1_2, hf1, ho1⟩ := fitsL_str hf1 ho1
  obtain ⟨a1_3, t1_3, rfl, w1_3, hf1, ho1⟩ := fitsL_int hf1 ho1
  obtain ⟨a1_4, t1_4, rfl, w1_4, hf1, ho1⟩ := fitsL_int hf1 ho1
  obtain ⟨a1_5, t1_5, rfl, w1_5, hf1, ho1⟩ := fitsL_int hf1 ho1
  obtain ⟨a1_6, t1_6, rfl, w1_6, hf1, ho1⟩ := fitsL_int hf1 ho1
  obtain ⟨a1_7, t1_7, rfl, w1_7, hf1, ho1⟩ := fitsL_int hf1 ho1
  obtain ⟨a1_8, t1_8, rfl, w1_8, hf1, ho1⟩ := fitsL_int hf1 ho1
  obtain ⟨a1_9, t1_9, rfl, w1_9, hf1, ho1⟩ := fitsL_int hf1 ho1
  obtain ⟨a1_10, t1_10, rfl, w1_10, hf1, ho1⟩ := fitsL_int hf1 ho1
  obtain ⟨a1_11, t1_11, rfl, w1_11, hf1, ho1⟩ := fitsL_int hf1 ho1
  obtain rfl := fitsL_nil hf1
  clear hA0 hval0
  obtain ⟨m, hm⟩ := Go.Proofs.Tryd.laysM219.s1_3 W hS
  letI : MLen := ⟨m⟩
  refine (contract_row (E := aE) (args := [.str a0.data.toList, .agg [.str a1_0, .int .i64 a1_1, .str a1_2, .int .i64 a1_3, .int .i64 a1_4, .int .i64 a1_5, .int .i64 a1_6, .int .i64 a1_7, .int .i64 a1_8, .int .i64 a1_9, .int .i64 a1_10, .int .i64 a1_11]]) (vs := [.string a0, .agg a1]) (Px.px_B a0.data.toList a1_0 a1_1 a1_2 a1_3 a1_4 a1_5 a1_6 a1_7 a1_8 a1_9 a1_10 a1_11 (sized_agg hsz (j := 1) rfl rfl (by kernel_rfl) h1 hp1 a1_0 (by simp)) (sized_agg hsz (j := 1) rfl rfl (by kernel_rfl) h1 hp1 a1_2 (by simp))) (globs hL hm) (.cons (by unfold rep; cases a0; simp) (.cons (by unfold rep; exact ⟨a1.toList, by simp, (repL_iff _ _).2 hp1⟩) .nil))).mono fun e W' ⟨he, bel⟩ => ?_
  subst he
  exact ⟨_, rfl, _, _, _, [], _, [], hW', trodAll_mk1 (shut_bool Tryd.underlying4 _), trodAll_below laidOut bel _ _ _ _ (by kernel_rfl) hAll, rfl, bel.frame _, fun h => by cases h⟩

theorem over : Rows.PosixBackSaid :=
  OpenClaim.holds_of_wide 5 Tryd.f5 rfl rfl rfl rfl rfl rfl rfl ⟨rfl, rfl, rfl, rfl, rfl⟩ rfl rfl rfl rfl rfl (by kernel_rfl) Tryd.func5 (by kernel_rfl)
    (of_decide_eq_true (by kernel_rfl)) (by unfold Func.isWrapper; rw [if_neg (of_decide_eq_false (by kernel_rfl))]; exact ⟨rfl, rfl⟩)
    (fun os started H enc _ => lifted os started H enc)

theorem card : Rows.PosixBackCardSaid :=
  Claim7.holds_tied_plain_at .later [] _ true _ _
    over (fun _ h => by cases h) (by kernel_rfl) (fun _ h => by cases h) posixBack_row_tie rfl ⟨rfl, rfl⟩ (by kernel_rfl) rfl
    (fun f fn hf hfn => by
      obtain rfl : f = 5 := Option.some.inj ((show Tryd.prog.funcNamed "noontide/noontidelaw49.PosixBack" = some 5 by kernel_rfl).symm.trans hf) |>.symm
      obtain rfl : fn = Tryd.f5 := (Option.some.inj (Tryd.func5.symm.trans hfn)).symm
      exact ⟨by kernel_rfl, fun j t ht => by
        rw [Tryd.params5] at ht
        have key : ∀ t ∈ [9, 59], Tryd.prog.wantsStandIn t = false := by
          intro t h
          simp only [List.mem_cons, List.mem_nil_iff, or_false] at h
          rcases h with rfl | rfl | rfl | rfl | rfl | rfl | rfl | rfl <;> kernel_rfl
        exact key t (List.mem_of_getElem? (by simpa using ht))⟩)
    (by kernel_rfl)
#print axioms card
end Go.Proofs.YteccmgkfmeoekaaDoor.posixBack
