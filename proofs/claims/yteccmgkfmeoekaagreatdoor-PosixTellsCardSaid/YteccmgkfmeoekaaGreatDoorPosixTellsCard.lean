/-
  PosixTells, the row: for every input the law returns true, and each argument reads afterwards as before; its listed variables are tied to the program's text.
-/
import Derived.Test.YteccmgkfmeoekaaGreatDoorRows
import Derived.Lay
import Derived.Test.YteccmgkfmeoekaaGreatDoorCards
import Derived.Test.YteccmgkfmeoekaaGreatDoorTie
import Derived.SevenTiedAt
import Derived.Test.YteccmgkfmeoekaaGreatDoorMXC
import Derived.Test.YteccmgkfmeoekaaGreatDoorMBB
import Derived.Test.YteccmgkfmeoekaaGreatDoorMZ
import Derived.Test.YteccmgkfmeoekaaGreatDoorMC
set_option linter.unusedVariables false
set_option linter.unusedSimpArgs false
namespace Go.Proofs.YteccmgkfmeoekaaGreatDoor.posixTells
open Nt.Ev Nt.Ev.YteccmgkfmeoekaaGreatDoor Go.ChangeShapes Go.WideShapes Go.ChangeAt Go.RowKit Nt Nt.Num
open Go.ChangeMaps (open_string shut_string)

theorem own : ownKnob Tryz.prog.godebug = none := by kernel_rfl
theorem laidOut : laidOutB Tryz.prog = true := by kernel_rfl

theorem globs {W : World} {m : Int} (h : laidMetH Tryz.prog Rows.posixTellsRow.laid W) (hm : W.cell? ⟨3, 0, none⟩ = some (.int .i64 m)) : GlobOk (@aE ⟨m⟩) (heapG W) := by
  letI : MLen := ⟨m⟩
  rw [MakeChecks.laidMetH_plain _ _ _ (by kernel_rfl)] at h
  obtain ⟨ps, ⟨g0, t0, cs0, f0, p0, q0, hg0, ht0, hv0, hd0, ⟨g1, t1, cs1, f1, p1, q1, hg1, ht1, hv1, hd1, ⟨g2, t2, cs2, f2, p2, q2, hg2, ht2, hv2, hd2, _, _⟩, _⟩, _⟩, _, _⟩ := h
  obtain rfl := Option.some.inj ((show Tryz.prog.globalNamed "noontide/amount.parts" = some 2 by kernel_rfl).symm.trans hg1)
  obtain rfl := Option.some.inj ((show (Tryz.prog.globals[2]?).map (·.type) = some 208 by kernel_rfl).symm.trans ht1)
  intro n v hv
  unfold aE at hv
  simp only at hv
  cases e1 : n == 2 with
  | true =>
    rw [e1] at hv
    obtain rfl : n = 2 := by simpa using e1
    simp only [cond_true, cond_false, Option.some.injEq] at hv
    subst hv
    exact ⟨by kernel_rfl, glob_data (f := 8) hg1 hv1 hd1 (by kernel_rfl) (by kernel_rfl)⟩
  | false =>
    rw [e1] at hv
    cases em : n == 3 with
    | true =>
      rw [em] at hv
      obtain rfl : n = 3 := by simpa using em
      simp only [cond_true, cond_false, Option.some.injEq] at hv
      subst hv
      exact ⟨rfl, glob_cell hm⟩
    | false => rw [em] at hv; cases hv

set_option maxRecDepth 100000 in
theorem lifted (os : Os) (started : os.Started) (H : Type) (enc : TypeId × Value → H) :
    ReturnsInHanded {} Tryz.checked os 4 .any (fun w args => (Rows.posixTellsSpec.pre enc Tryz.prog Tryz.f4 [] false w args ∧ laidMetH Tryz.prog Rows.posixTellsRow.laid w) ∧ sizedMet enc Tryz.prog Tryz.f4 (OpenSpec.ofChange Rows.posixTellsSpec) false w args)
      (Rows.posixTellsSpec.post enc Tryz.prog Tryz.f4 false true false false) := by
  refine returnsInHanded_and_shaped (C := Tryz.checked) (X := fun w _ => laidMetH Tryz.prog Rows.posixTellsRow.laid w) (fun _ _ _ hh h => h.of_heap hh) own started (by kernel_rfl) Tryz.func4
    (ChangeSpec.witness_shaped (enc := enc) (C := Tryz.checked) (os := os) (X := fun w _ => laidMetH Tryz.prog Rows.posixTellsRow.laid w) false (World.laidAll Tryz.prog os Rows.posixTellsRow.laid) #[.string ⟨#[]⟩, .agg #[.string ⟨#[]⟩, .int .i64 0, .string ⟨#[]⟩, .int .i64 0, .int .i64 0, .int .i64 0, .int .i64 0, .int .i64 0, .int .i64 0, .int .i64 0, .int .i64 0, .int .i64 0], .agg #[.int .i64 0, .int .i64 0, .int .i64 0, .int .i64 0]] 8 (World.laidAll_os _ _ _) (World.shaped_of_ZipB (by kernel_rfl) (by kernel_rfl)) (by kernel_rfl) (by kernel_rfl) (by kernel_rfl)
      (by rw [MakeChecks.laidMetH_plain _ _ _ (by kernel_rfl)]; exact laidMet_laidAll _ (by kernel_rfl) (by kernel_rfl))) ?_
  intro W base args ds gs before hval0 hW _ hsz0 hL hS
  have hval : ∀ (j : Nat) t v, Tryz.f4.params[j]? = some t → args[j]? = some v → Value.okWide Tryz.prog W .any base t v := hval0
  have hsz : (DataW.weightsEach Tryz.prog (Tryz.f4.params.toList ++ Rows.posixTellsSpec.plain.varTypes Tryz.prog) (ds ++ gs)).all (· ≤ reachBytes) = true := hsz0
  have hW' := hW
  obtain ⟨p, q, hA0, hV, rfl, hfz, hnd⟩ := hW
  have hA : DataW.TrodAll enc Tryz.prog W 0 (fun _ => true) true Tryz.f4.params.toList args.toList ds p := hA0
  rw [Tryz.params4] at hA hval hsz
  have hAll := hA
  obtain ⟨v0, vs0, d0, ds0, p0, q0, hargs, rfl, rfl, h0, r0⟩ := trodAll_cons hA
  obtain ⟨v1, vs1, d1, ds1, p1, q1, rfl, rfl, rfl, h1, r1⟩ := trodAll_cons r0
  obtain ⟨v2, vs2, d2, ds2, p2, q2, rfl, rfl, rfl, h2, r2⟩ := trodAll_cons r1
  obtain ⟨rfl, rfl, rfl⟩ := trodAll_nil r2
  obtain rfl : args = #[v0, v1, v2] := by cases args; simp_all
  obtain ⟨rfl, rfl⟩ := trodVars_none hV
  obtain ⟨a0, rfl, rfl, _, w0⟩ := open_string Tryz.underlying9 (hval 0 9 v0 rfl rfl) h0
  obtain ⟨a1, xs1, rfl, hp1, hf1, ho1⟩ := open_fit (sh := [.str, .int .i64, .str, .int .i64, .int .i64, .int .i64, .int .i64, .int .i64, .int .i64, .int .i64, .int .i64, .int .i64]) (by kernel_rfl) (by kernel_rfl) (by kernel_rfl) (hval 1 41 v1 rfl rfl) h1
  obtain ⟨a1_0, t1_0, rfl, w1_0, hf1, ho1⟩ := fitsL_str hf1 ho1
  obtain ⟨a1_1, t1_1, rfl, w1_1, hf1, ho1⟩ := fitsL_int hf1 ho1
  obtain ⟨a1_2, t1_2, rfl, w1_2, hf1, ho1⟩ := fitsL_str hf1 ho1
  obtain ⟨a1_3, t1_3, rfl, w1_3, hf1, ho1⟩ := fitsL_int hf1 ho1
  obtain ⟨a1_4, t1_4, rfl, w1_4, hf1, ho1⟩ := fitsL_int hf1 ho1
  obtain ⟨a1_5, t1_5, rfl, w1_5, hf1, ho1⟩ := fitsL_int hf1 ho1
  obtain ⟨a1_6, t1_6, rfl, w1_6, hf1, ho1⟩ := fitsL_int hf1 ho1
  obtain ⟨a1_7, t1_7, rfl, w1_7, hf1, ho1⟩ := fitsL_int hf1 ho1
  obtain ⟨a1_8, t1_8, rfl, w1_8, hf1, ho1⟩ := fitsL_int hf1 ho1
  obtain ⟨a1_9, t1_9, rfl, w1_9, hf1, ho1⟩ := fitsL_int hf1 ho1
  obtain ⟨a1_10, t1_10, rfl, w1_10, hf1, ho1⟩ := fitsL_int hf1 ho1
  obtain ⟨a1_11, t1_11, rfl, w1_11, hf1, ho1⟩ := fitsL_int hf1 ho1
  obtain rfl := fitsL_nil hf1
  obtain ⟨a2, xs2, rfl, hp2, hf2, ho2⟩ := open_fit (sh := [.int .i64, .int .i64, .int .i64, .int .i64]) (by kernel_rfl) (by kernel_rfl) (by kernel_rfl) (hval 2 39 v2 rfl rfl) h2
  obtain ⟨a2_0, t2_0, rfl, w2_0, hf2, ho2⟩ := fitsL_int hf2 ho2
  obtain ⟨a2_1, t2_1, rfl, w2_1, hf2, ho2⟩ := fitsL_int hf2 ho2
  obtain ⟨a2_2, t2_2, rfl, w2_2, hf2, ho2⟩ := fitsL_int hf2 ho2
  obtain ⟨a2_3, t2_3, rfl, w2_3, hf2, ho2⟩ := fitsL_int hf2 ho2
  obtain rfl := fitsL_nil hf2
  clear hA0 hval0
  obtain ⟨m, hm⟩ := Go.Proofs.Tryz.laysM219.s1_3 W hS
  letI : MLen := ⟨m⟩
  refine (contract_row (E := aE) (args := [.str a0.data.toList, .agg [.str a1_0, .int .i64 a1_1, .str a1_2, .int .i64 a1_3, .int .i64 a1_4, .int .i64 a1_5, .int .i64 a1_6, .int .i64 a1_7, .int .i64 a1_8, .int .i64 a1_9, .int .i64 a1_10, .int .i64 a1_11], .agg [.int .i64 a2_0, .int .i64 a2_1, .int .i64 a2_2, .int .i64 a2_3]]) (vs := [.string a0, .agg a1, .agg a2]) (Px.px_T a0.data.toList a1_0 a1_1 a1_2 a1_3 a1_4 a1_5 a1_6 a1_7 a1_8 a1_9 a1_10 a1_11 a2_0 a2_1 a2_2 a2_3 (sized_agg hsz (j := 1) rfl rfl (by kernel_rfl) h1 hp1 a1_0 (by simp)) (sized_agg hsz (j := 1) rfl rfl (by kernel_rfl) h1 hp1 a1_2 (by simp))) (globs hL hm) (.cons (by unfold rep; cases a0; simp) (.cons (by unfold rep; exact ⟨a1.toList, by simp, (repL_iff _ _).2 hp1⟩) (.cons (by unfold rep; exact ⟨a2.toList, by simp, (repL_iff _ _).2 hp2⟩) .nil)))).mono fun e W' ⟨he, bel⟩ => ?_
  subst he
  exact ⟨_, rfl, _, _, _, [], _, [], hW', trodAll_mk1 (shut_bool Tryz.underlying4 _), trodAll_below laidOut bel _ _ _ _ (by kernel_rfl) hAll, rfl, bel.frame _, fun h => by cases h⟩

theorem over : Rows.PosixTellsSaid :=
  OpenClaim.holds_of_wide 4 Tryz.f4 rfl rfl rfl rfl rfl rfl rfl ⟨rfl, rfl, rfl, rfl, rfl⟩ rfl rfl rfl rfl rfl (by kernel_rfl) Tryz.func4 (by kernel_rfl)
    (of_decide_eq_true (by kernel_rfl)) (by unfold Func.isWrapper; rw [if_neg (of_decide_eq_false (by kernel_rfl))]; exact ⟨rfl, rfl⟩)
    (fun os started H enc _ => lifted os started H enc)

theorem card : Rows.PosixTellsCardSaid :=
  Claim7.holds_tied_plain_at .later [] _ true _ _
    over (fun _ h => by cases h) (by kernel_rfl) (fun _ h => by cases h) posixTells_row_tie rfl ⟨rfl, rfl⟩ (by kernel_rfl) rfl
    (fun f fn hf hfn => by
      obtain rfl : f = 4 := Option.some.inj ((show Tryz.prog.funcNamed "noontide/noontidelaw49.PosixTells" = some 4 by kernel_rfl).symm.trans hf) |>.symm
      obtain rfl : fn = Tryz.f4 := (Option.some.inj (Tryz.func4.symm.trans hfn)).symm
      exact ⟨by kernel_rfl, fun j t ht => by
        rw [Tryz.params4] at ht
        have key : ∀ t ∈ [9, 41, 39], Tryz.prog.wantsStandIn t = false := by
          intro t h
          simp only [List.mem_cons, List.mem_nil_iff, or_false] at h
          rcases h with rfl | rfl | rfl | rfl | rfl | rfl | rfl | rfl <;> kernel_rfl
        exact key t (List.mem_of_getElem? (by simpa using ht))⟩)
    (by kernel_rfl)
#print axioms card
end Go.Proofs.YteccmgkfmeoekaaGreatDoor.posixTells
