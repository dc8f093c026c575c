/-
  EraBack, the row: for every input the law returns true, and each argument reads afterwards as before; its listed variables are tied to the program's text.
-/
import Derived.Test.YtgfedofdljielaaGreatDoorRows
import Derived.Lay
import Derived.Test.YtgfedofdljielaaGreatDoorCards
import Derived.Test.YtgfedofdljielaaGreatDoorTie
import Derived.SevenTiedAt
import Derived.Test.YtgfedofdljielaaGreatDoorMN
import Derived.Test.YtgfedofdljielaaGreatDoorMBB
import Derived.Test.YtgfedofdljielaaGreatDoorMZ
import Derived.Test.YtgfedofdljielaaGreatDoorMC
set_option linter.unusedVariables false
set_option linter.unusedSimpArgs false
namespace Go.Proofs.YtgfedofdljielaaGreatDoor.eraBack
open Nt.Ev Nt.Ev.YtgfedofdljielaaGreatDoor Go.ChangeShapes Go.WideShapes Go.ChangeAt Go.RowKit Nt Nt.Num
open Go.ChangeMaps (open_string shut_string)

theorem own : ownKnob Tryz.prog.godebug = none := by kernel_rfl
theorem laidOut : laidOutB Tryz.prog = true := by kernel_rfl

theorem globs {W : World} {m : Int} (h : laidMetH Tryz.prog Rows.eraBackRow.laid W) (hm : W.cell? ⟨4, 0, none⟩ = some (.int .i64 m)) : GlobOk (@eE ⟨m⟩) (heapG W) := by
  letI : MLen := ⟨m⟩
  rw [MakeChecks.laidMetH_plain _ _ _ (by kernel_rfl)] at h
  obtain ⟨ps, ⟨g0, t0, cs0, f0, p0, q0, hg0, ht0, hv0, hd0, ⟨g1, t1, cs1, f1, p1, q1, hg1, ht1, hv1, hd1, ⟨g2, t2, cs2, f2, p2, q2, hg2, ht2, hv2, hd2, ⟨g3, t3, cs3, f3, p3, q3, hg3, ht3, hv3, hd3, ⟨g4, t4, cs4, f4, p4, q4, hg4, ht4, hv4, hd4, ⟨g5, t5, cs5, f5, p5, q5, hg5, ht5, hv5, hd5, _, _⟩, _⟩, _⟩, _⟩, _⟩, _⟩, _, _⟩ := h
  obtain rfl := Option.some.inj ((show Tryz.prog.globalNamed "noontide/era.first" = some 0 by kernel_rfl).symm.trans hg4)
  obtain rfl := Option.some.inj ((show (Tryz.prog.globals[0]?).map (·.type) = some 24 by kernel_rfl).symm.trans ht4)
  obtain rfl := Option.some.inj ((show Tryz.prog.globalNamed "noontide/words.weekdays" = some 3 by kernel_rfl).symm.trans hg1)
  obtain rfl := Option.some.inj ((show (Tryz.prog.globals[3]?).map (·.type) = some 131 by kernel_rfl).symm.trans ht1)
  obtain rfl := Option.some.inj ((show Tryz.prog.globalNamed "noontide/words.months" = some 1 by kernel_rfl).symm.trans hg0)
  obtain rfl := Option.some.inj ((show (Tryz.prog.globals[1]?).map (·.type) = some 100 by kernel_rfl).symm.trans ht0)
  obtain rfl := Option.some.inj ((show Tryz.prog.globalNamed "noontide/amount.parts" = some 2 by kernel_rfl).symm.trans hg3)
  obtain rfl := Option.some.inj ((show (Tryz.prog.globals[2]?).map (·.type) = some 127 by kernel_rfl).symm.trans ht3)
  intro n v hv
  unfold eE at hv
  simp only at hv
  cases e4 : n == 0 with
  | true =>
    rw [e4] at hv
    obtain rfl : n = 0 := by simpa using e4
    simp only [cond_true, cond_false, Option.some.injEq] at hv
    subst hv
    exact ⟨by kernel_rfl, glob_data (f := 8) hg4 hv4 hd4 (by kernel_rfl) (by kernel_rfl)⟩
  | false =>
    rw [e4] at hv
    cases e1 : n == 3 with
    | true =>
      rw [e1] at hv
      obtain rfl : n = 3 := by simpa using e1
      simp only [cond_true, cond_false, Option.some.injEq] at hv
      subst hv
      exact ⟨by kernel_rfl, glob_data (f := 8) hg1 hv1 hd1 (by kernel_rfl) (by kernel_rfl)⟩
    | false =>
      rw [e1] at hv
      cases e0 : n == 1 with
      | true =>
        rw [e0] at hv
        obtain rfl : n = 1 := by simpa using e0
        simp only [cond_true, cond_false, Option.some.injEq] at hv
        subst hv
        exact ⟨by kernel_rfl, glob_data (f := 8) hg0 hv0 hd0 (by kernel_rfl) (by kernel_rfl)⟩
      | false =>
        rw [e0] at hv
        cases e3 : n == 2 with
        | true =>
          rw [e3] at hv
          obtain rfl : n = 2 := by simpa using e3
          simp only [cond_true, cond_false, Option.some.injEq] at hv
          subst hv
          exact ⟨by kernel_rfl, glob_data (f := 8) hg3 hv3 hd3 (by kernel_rfl) (by kernel_rfl)⟩
        | false =>
          rw [e3] at hv
          cases em : n == 4 with
          | true =>
            rw [em] at hv
            obtain rfl : n = 4 := by simpa using em
            simp only [cond_true, cond_false, Option.some.injEq] at hv
            subst hv
            exact ⟨rfl, glob_cell hm⟩
          | false => rw [em] at hv; cases hv

set_option maxRecDepth 100000 in
theorem lifted (os : Os) (started : os.Started) (H : Type) (enc : TypeId × Value → H) :
    ReturnsInHanded {} Tryz.checked os 6 .any (fun w args => (Rows.eraBackSpec.pre enc Tryz.prog Tryz.f6 [] false w args ∧ laidMetH Tryz.prog Rows.eraBackRow.laid w) ∧ sizedMet enc Tryz.prog Tryz.f6 (OpenSpec.ofChange Rows.eraBackSpec) false w args)
      (Rows.eraBackSpec.post enc Tryz.prog Tryz.f6 false true false false) := by
  refine returnsInHanded_and_shaped (C := Tryz.checked) (X := fun w _ => laidMetH Tryz.prog Rows.eraBackRow.laid w) (fun _ _ _ hh h => h.of_heap hh) own started (by kernel_rfl) Tryz.func6
    (ChangeSpec.witness_shaped (enc := enc) (C := Tryz.checked) (os := os) (X := fun w _ => laidMetH Tryz.prog Rows.eraBackRow.laid w) false (World.laidAll Tryz.prog os Rows.eraBackRow.laid) #[.slice none 0 0, .agg #[.int .i64 0, .int .i64 0, .int .i64 0, .string ⟨#[]⟩, .string ⟨#[]⟩, .bool false, .int .i64 0, .int .i64 0, .int .i64 0, .int .i64 0, .int .i64 0, .int .i64 0, .int .i64 0]] 8 (World.laidAll_os _ _ _) (World.shaped_of_ZipB (by kernel_rfl) (by kernel_rfl)) (by kernel_rfl) (by kernel_rfl) (by kernel_rfl)
      (by rw [MakeChecks.laidMetH_plain _ _ _ (by kernel_rfl)]; exact laidMet_laidAll _ (by kernel_rfl) (by kernel_rfl))) ?_
  intro W base args ds gs before hval0 hW _ hsz0 hL hS
  have hval : ∀ (j : Nat) t v, Tryz.f6.params[j]? = some t → args[j]? = some v → Value.okWide Tryz.prog W .any base t v := hval0
  have hsz : (DataW.weightsEach Tryz.prog (Tryz.f6.params.toList ++ Rows.eraBackSpec.plain.varTypes Tryz.prog) (ds ++ gs)).all (· ≤ reachBytes) = true := hsz0
  have hW' := hW
  obtain ⟨p, q, hA0, hV, rfl, hfz, hnd⟩ := hW
  have hA : DataW.TrodAll enc Tryz.prog W 0 (fun _ => true) true Tryz.f6.params.toList args.toList ds p := hA0
  rw [Tryz.params6] at hA hval hsz
  have hAll := hA
  obtain ⟨v0, vs0, d0, ds0, p0, q0, hargs, rfl, rfl, h0, r0⟩ := trodAll_cons hA
  obtain ⟨v1, vs1, d1, ds1, p1, q1, rfl, rfl, rfl, h1, r1⟩ := trodAll_cons r0
  obtain ⟨rfl, rfl, rfl⟩ := trodAll_nil r1
  obtain rfl : args = #[v0, v1] := by cases args; simp_all
  obtain ⟨rfl, rfl⟩ := trodVars_none hV
  obtain ⟨sa0, sl0, sc0, rfl⟩ := okWide_slice Tryz.underlying22 (hval 0 22 v0 rfl rfl)
  obtain ⟨xs0, hr0, hn0, hx0⟩ := open_slice2 (e := 9) (sh := [.str]) (by kernel_rfl) (by kernel_rfl) h0
  have hx0 := strs_of (by kernel_rfl) hx0
  obtain ⟨a1, xs1, rfl, hp1, hf1, ho1⟩ := open_fit (sh := [.int .i64, .int .i64, .int .i64, .str, .str, .bool, .int .i64, .int .i64, .int .i64, .int .i64, .int .i64, .int .i64, .int .i64]) (by kernel_rfl) (by kernel_rfl) (by kernel_rfl) (hval 1 43 v1 rfl rfl) h1
  obtain ⟨a1_0, t1_0, rfl, w1_0, hf1, ho1⟩ := fitsL_int hf1 ho1
  obtain ⟨a1_1, t1_1, rfl, w1_1, hf1, ho1⟩ := fitsL_int hf1 ho1
  obtain ⟨a1_2, t1_2, rfl, w1_2, hf1, ho1⟩ := fitsL_int hf1 ho1
  obtain ⟨a1_3, t1_3, rfl, w1_3, hf1, ho1⟩ := fitsL_str hf1 ho1
  obtain ⟨a1_4, t1_4, rfl, w1_4, hf1, ho1⟩ := fitsL_str hf1 ho1
  obtain ⟨a1_5, t1_5, rfl, w1_5, hf1, ho1⟩ := fitsL_bool hf1 ho1
  obtain ⟨a1_6, t1_6, rfl, w1_6, hf1, ho1⟩ := fitsL_int hf1 ho1
  obtain ⟨a1_7, t1_7, rfl, w1_7, hf1, ho1⟩ := fitsL_int hf1 ho1
  obtain ⟨a1_8, t1_8, rfl, w1_8, hf1, ho1⟩ := fitsL_int hf1 ho1
  obtain ⟨a1_9, t1_9, rfl, w1_9, hf1, ho1⟩ := fitsL_int hf1 ho1
  obtain ⟨a1_10, t1_10, rfl, w1_10, hf1, ho1⟩ := fitsL_int hf1 ho1
  obtain ⟨a1_11, t1_11, rfl, w1_11, hf1, ho1⟩ := fitsL_int hf1 ho1
  obtain ⟨a1_12, t1_12, rfl, w1_12, hf1, ho1⟩ := fitsL_int hf1 ho1
  obtain rfl := fitsL_nil hf1
  clear hA0 hval0
  obtain ⟨m, hm⟩ := Go.Proofs.Tryz.laysM219.s1_3 W hS
  letI : MLen := ⟨m⟩
  refine (contract_row (E := eE) (args := [.sl 9 [.str] none xs0, .agg [.int .i64 a1_0, .int .i64 a1_1, .int .i64 a1_2, .str a1_3, .str a1_4, .bool a1_5, .int .i64 a1_6, .int .i64 a1_7, .int .i64 a1_8, .int .i64 a1_9, .int .i64 a1_10, .int .i64 a1_11, .int .i64 a1_12]]) (vs := [.slice sa0 sl0 sc0, .agg a1]) (era_B xs0 (fun x h => (hx0 x h).imp fun l q => q.1) a1_0 a1_1 a1_2 a1_3 a1_4 a1_5 a1_6 a1_7 a1_8 a1_9 a1_10 a1_11 a1_12  (bounds_i64 w1_0) (bounds_i64 w1_2) (bounds_i64 w1_6) (bounds_i64 w1_7)) (globs hL hm) (.cons hr0 (.cons (by unfold rep; exact ⟨a1.toList, by simp, (repL_iff _ _).2 hp1⟩) .nil))).mono fun e W' ⟨he, bel⟩ => ?_
  subst he
  exact ⟨_, rfl, _, _, _, [], _, [], hW', trodAll_mk1 (shut_bool Tryz.underlying4 _), trodAll_below laidOut bel _ _ _ _ (by kernel_rfl) hAll, rfl, bel.frame _, fun h => by cases h⟩

theorem over : Rows.EraBackSaid :=
  OpenClaim.holds_of_wide 6 Tryz.f6 rfl rfl rfl rfl rfl rfl rfl ⟨rfl, rfl, rfl, rfl, rfl⟩ rfl rfl rfl rfl rfl (by kernel_rfl) Tryz.func6 (by kernel_rfl)
    (of_decide_eq_true (by kernel_rfl)) (by unfold Func.isWrapper; rw [if_neg (of_decide_eq_false (by kernel_rfl))]; exact ⟨rfl, rfl⟩)
    (fun os started H enc _ => lifted os started H enc)

theorem card : Rows.EraBackCardSaid :=
  Claim7.holds_tied_plain_at .later [] _ true _ _
    over (fun _ h => by cases h) (by kernel_rfl) (fun _ h => by cases h) eraBack_row_tie rfl ⟨rfl, rfl⟩ (by kernel_rfl) rfl
    (fun f fn hf hfn => by
      obtain rfl : f = 6 := Option.some.inj ((show Tryz.prog.funcNamed "noontide/noontidelaw22.EraBack" = some 6 by kernel_rfl).symm.trans hf) |>.symm
      obtain rfl : fn = Tryz.f6 := (Option.some.inj (Tryz.func6.symm.trans hfn)).symm
      exact ⟨by kernel_rfl, fun j t ht => by
        rw [Tryz.params6] at ht
        have key : ∀ t ∈ [22, 43], Tryz.prog.wantsStandIn t = false := by
          intro t h
          simp only [List.mem_cons, List.mem_nil_iff, or_false] at h
          rcases h with rfl | rfl | rfl | rfl | rfl | rfl | rfl | rfl <;> kernel_rfl
        exact key t (List.mem_of_getElem? (by simpa using ht))⟩)
    (by kernel_rfl)
#print axioms card
end Go.Proofs.YtgfedofdljielaaGreatDoor.eraBack
