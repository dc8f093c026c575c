/-
  TopShifted, the row: for every input the law returns true, and each argument reads afterwards as before; its listed variables are tied to the program's text.
-/
import Derived.Test.YtheojhajckcdlaaGreatDoorRows
import Derived.Lay
import Derived.Test.YtheojhajckcdlaaGreatDoorCards
import Derived.Test.YtheojhajckcdlaaGreatDoorTie
import Derived.SevenTiedAt
import Derived.Test.YtheojhajckcdlaaGreatDoorMXK
import Derived.Test.YtheojhajckcdlaaGreatDoorMBB
import Derived.Test.YtheojhajckcdlaaGreatDoorMZ
import Derived.Test.YtheojhajckcdlaaGreatDoorMC
set_option linter.unusedVariables false
set_option linter.unusedSimpArgs false
namespace Go.Proofs.YtheojhajckcdlaaGreatDoor.topShifted
open Nt.Ev Nt.Ev.YtheojhajckcdlaaGreatDoor Go.ChangeShapes Go.WideShapes Go.ChangeAt Go.RowKit Nt Nt.Num
open Go.ChangeMaps (open_string shut_string)

theorem own : ownKnob Tryz.prog.godebug = none := by kernel_rfl
theorem laidOut : laidOutB Tryz.prog = true := by kernel_rfl

theorem globs {W : World} {m : Int} (h : laidMetH Tryz.prog Rows.topShiftedRow.laid W) (hm : W.cell? ⟨1, 0, none⟩ = some (.int .i64 m)) : GlobOk (@Fo.jE ⟨m⟩) (heapG W) := by
  letI : MLen := ⟨m⟩
  rw [MakeChecks.laidMetH_plain _ _ _ (by kernel_rfl)] at h
  obtain ⟨ps, ⟨g0, t0, cs0, f0, p0, q0, hg0, ht0, hv0, hd0, ⟨g1, t1, cs1, f1, p1, q1, hg1, ht1, hv1, hd1, ⟨g2, t2, cs2, f2, p2, q2, hg2, ht2, hv2, hd2, _, _⟩, _⟩, _⟩, _, _⟩ := h
  obtain rfl := Option.some.inj ((show Tryz.prog.globalNamed "noontide/force.start" = some 0 by kernel_rfl).symm.trans hg1)
  obtain rfl := Option.some.inj ((show (Tryz.prog.globals[0]?).map (·.type) = some 46 by kernel_rfl).symm.trans ht1)
  intro n v hv
  unfold Fo.jE at hv
  simp only at hv
  cases e1 : n == 0 with
  | true =>
    rw [e1] at hv
    obtain rfl : n = 0 := by simpa using e1
    simp only [cond_true, cond_false, Option.some.injEq] at hv
    subst hv
    exact ⟨by kernel_rfl, glob_data (f := 8) hg1 hv1 hd1 (by kernel_rfl) (by kernel_rfl)⟩
  | false =>
    rw [e1] at hv
    cases em : n == 1 with
    | true =>
      rw [em] at hv
      obtain rfl : n = 1 := by simpa using em
      simp only [cond_true, cond_false, Option.some.injEq] at hv
      subst hv
      exact ⟨rfl, glob_cell hm⟩
    | false => rw [em] at hv; cases hv

set_option maxRecDepth 100000 in
theorem lifted (os : Os) (started : os.Started) (H : Type) (enc : TypeId × Value → H) :
    ReturnsInHanded {} Tryz.checked os 3 .any (fun w args => (Rows.topShiftedSpec.pre enc Tryz.prog Tryz.f3 [] false w args ∧ laidMetH Tryz.prog Rows.topShiftedRow.laid w) ∧ sizedMet enc Tryz.prog Tryz.f3 (OpenSpec.ofChange Rows.topShiftedSpec) false w args)
      (Rows.topShiftedSpec.post enc Tryz.prog Tryz.f3 false true false false) := by
  refine returnsInHanded_and_shaped (C := Tryz.checked) (X := fun w _ => laidMetH Tryz.prog Rows.topShiftedRow.laid w) (fun _ _ _ hh h => h.of_heap hh) own started (by kernel_rfl) Tryz.func3
    (ChangeSpec.witness_shaped (enc := enc) (C := Tryz.checked) (os := os) (X := fun w _ => laidMetH Tryz.prog Rows.topShiftedRow.laid w) false (World.laidAll Tryz.prog os Rows.topShiftedRow.laid) #[.slice none 0 0, .agg #[.int .i64 0, .int .i64 0, .int .i64 0, .string ⟨#[]⟩, .string ⟨#[]⟩, .bool false, .int .i64 0, .int .i64 0, .int .i64 0, .int .i64 0, .int .i64 0, .int .i64 0, .int .i64 0], .int .i64 0, .int .i64 0] 8 (World.laidAll_os _ _ _) (World.shaped_of_ZipB (by kernel_rfl) (by kernel_rfl)) (by kernel_rfl) (by kernel_rfl) (by kernel_rfl)
      (by rw [MakeChecks.laidMetH_plain _ _ _ (by kernel_rfl)]; exact laidMet_laidAll _ (by kernel_rfl) (by kernel_rfl))) ?_
  intro W base args ds gs before hval0 hW _ hsz0 hL hS
  have hval : ∀ (j : Nat) t v, Tryz.f3.params[j]? = some t → args[j]? = some v → Value.okWide Tryz.prog W .any base t v := hval0
  have hsz : (DataW.weightsEach Tryz.prog (Tryz.f3.params.toList ++ Rows.topShiftedSpec.plain.varTypes Tryz.prog) (ds ++ gs)).all (· ≤ reachBytes) = true := hsz0
  have hW' := hW
  obtain ⟨p, q, hA0, hV, rfl, hfz, hnd⟩ := hW
  have hA : DataW.TrodAll enc Tryz.prog W 0 (fun _ => true) true Tryz.f3.params.toList args.toList ds p := hA0
  rw [Tryz.params3] at hA hval hsz
  have hAll := hA
  obtain ⟨v0, vs0, d0, ds0, p0, q0, hargs, rfl, rfl, h0, r0⟩ := trodAll_cons hA
  obtain ⟨v1, vs1, d1, ds1, p1, q1, rfl, rfl, rfl, h1, r1⟩ := trodAll_cons r0
  obtain ⟨v2, vs2, d2, ds2, p2, q2, rfl, rfl, rfl, h2, r2⟩ := trodAll_cons r1
  obtain ⟨v3, vs3, d3, ds3, p3, q3, rfl, rfl, rfl, h3, r3⟩ := trodAll_cons r2
  obtain ⟨rfl, rfl, rfl⟩ := trodAll_nil r3
  obtain rfl : args = #[v0, v1, v2, v3] := by cases args; simp_all
  obtain ⟨rfl, rfl⟩ := trodVars_none hV
  obtain ⟨sa0, sl0, sc0, rfl⟩ := okWide_slice Tryz.underlying22 (hval 0 22 v0 rfl rfl)
  obtain ⟨xs0, hr0, hn0, hx0⟩ := open_slice2 (e := 41) (sh := [.str, .int .i64, .int .i64, .int .i64, .int .i64, .int .i64, .int .i64, .int .i64, .int .i64, .int .i64, .str]) (by kernel_rfl) (by kernel_rfl) h0
  have hx0 := aggs_of (by kernel_rfl) hx0
  obtain ⟨a1, xs1, rfl, hp1, hf1, ho1⟩ := open_fit (sh := [.int .i64, .int .i64, .int .i64, .str, .str, .bool, .int .i64, .int .i64, .int .i64, .int .i64, .int .i64, .int .i64, .int .i64]) (by kernel_rfl) (by kernel_rfl) (by kernel_rfl) (hval 1 30 v1 rfl rfl) h1
  obtain ⟨a1_0, t1_0, rfl, w1_0, hf1, ho1⟩ := fitsL_int hf1 ho1
  obtain ⟨a1_1, t1_1, rfl, w1_1, hf1, ho1⟩ := fitsL_int hf1 ho1
  obtain ⟨a1_2, t1_2, rfl, w1_2, hf1, ho1⟩ := fitsL_int hf1 ho1
  obtain ⟨a1_3, t1_3, rfl, w1_3, hf1, ho1⟩ := fitsL_str hf1 ho1
  obtain ⟨a1_4, t1_4, rfl, w1_4, hf1, ho1⟩ := fitsL_str hf1 ho1
  obtain ⟨a1_5, t1_5, rfl, w1_5, hf1, ho1⟩ := fitsL_bool hf1 ho1
  obtain ⟨a1_6, t1_6, rfl, w1_6, hf1, ho1⟩ := fitsL_int hf1 ho1
  obtain ⟨a1_7, t1_7, rfl, w1_7, hf1, ho1⟩ := fitsL_int hf1 ho1
  obtain ⟨a1_8, t1_8, rfl, w1_8, hf1, ho1⟩ := fitsL_int hf1 ho1
  obtain ⟨a1_9, t1_9, rfl, w1_9, hf1, ho1⟩ := fitsL_int hf1 ho1
  obtain ⟨a1_10, t1_10, rfl, w1_10, hf1, ho1⟩ := fitsL_int hf1 ho1
  obtain ⟨a1_11, t1_11, rfl, w1_11, hf1, ho1⟩ := fitsL_int hf1 ho1
  obtain ⟨a1_12, t1_12, rfl, w1_12, hf1, ho1⟩ := fitsL_int hf1 ho1
  obtain rfl := fitsL_nil hf1
  obtain ⟨a2, rfl, rfl, _, w2⟩ := open_int Tryz.underlying2 (hval 2 2 v2 rfl rfl) h2
  obtain ⟨a3, rfl, rfl, _, w3⟩ := open_int Tryz.underlying2 (hval 3 2 v3 rfl rfl) h3
  clear hA0 hval0
  obtain ⟨m, hm⟩ := Go.Proofs.Tryz.laysM219.s1_3 W hS
  letI : MLen := ⟨m⟩
  refine (contract_row (E := Fo.jE) (args := [.sl 41 [.str, .int .i64, .int .i64, .int .i64, .int .i64, .int .i64, .int .i64, .int .i64, .int .i64, .int .i64, .str] none xs0, .agg [.int .i64 a1_0, .int .i64 a1_1, .int .i64 a1_2, .str a1_3, .str a1_4, .bool a1_5, .int .i64 a1_6, .int .i64 a1_7, .int .i64 a1_8, .int .i64 a1_9, .int .i64 a1_10, .int .i64 a1_11, .int .i64 a1_12], .int .i64 a2, .int .i64 a3]) (vs := [.slice sa0 sl0 sc0, .agg a1, .int .i64 a2, .int .i64 a3]) (Sf.sh_all xs0 a1_0 a1_1 a1_2 a1_3 a1_4 a1_5 a1_6 a1_7 a1_8 a1_9 a1_10 a1_11 a1_12 a2 a3 (Sf.ck_of (by have hz := sized_len hsz (j := 0) rfl rfl Tryz.underlying22 h0; rw [show Tryz.prog.bytesOf 41 = 104 from by kernel_rfl] at hz; rw [← Sf.rep_len hr0]; exact hz) hx0)) (globs hL hm) (.cons hr0 (.cons (by unfold rep; exact ⟨a1.toList, by simp, (repL_iff _ _).2 hp1⟩) (.cons (by unfold rep; rfl) (.cons (by unfold rep; rfl) .nil))))).mono fun e W' ⟨he, bel⟩ => ?_
  subst he
  exact ⟨_, rfl, _, _, _, [], _, [], hW', trodAll_mk1 (shut_bool Tryz.underlying4 _), trodAll_below laidOut bel _ _ _ _ (by kernel_rfl) hAll, rfl, bel.frame _, fun h => by cases h⟩

theorem over : Rows.TopShiftedSaid :=
  OpenClaim.holds_of_wide 3 Tryz.f3 rfl rfl rfl rfl rfl rfl rfl ⟨rfl, rfl, rfl, rfl, rfl⟩ rfl rfl rfl rfl rfl (by kernel_rfl) Tryz.func3 (by kernel_rfl)
    (of_decide_eq_true (by kernel_rfl)) (by unfold Func.isWrapper; rw [if_neg (of_decide_eq_false (by kernel_rfl))]; exact ⟨rfl, rfl⟩)
    (fun os started H enc _ => lifted os started H enc)

theorem card : Rows.TopShiftedCardSaid :=
  Claim7.holds_tied_plain_at .later [] _ true _ _
    over (fun _ h => by cases h) (by kernel_rfl) (fun _ h => by cases h) topShifted_row_tie rfl ⟨rfl, rfl⟩ (by kernel_rfl) rfl
    (fun f fn hf hfn => by
      obtain rfl : f = 3 := Option.some.inj ((show Tryz.prog.funcNamed "noontide/noontidetop.TopShifted" = some 3 by kernel_rfl).symm.trans hf) |>.symm
      obtain rfl : fn = Tryz.f3 := (Option.some.inj (Tryz.func3.symm.trans hfn)).symm
      exact ⟨by kernel_rfl, fun j t ht => by
        rw [Tryz.params3] at ht
        have key : ∀ t ∈ [22, 30, 2, 2], Tryz.prog.wantsStandIn t = false := by
          intro t h
          simp only [List.mem_cons, List.mem_nil_iff, or_false] at h
          rcases h with rfl | rfl | rfl | rfl | rfl | rfl | rfl | rfl <;> kernel_rfl
        exact key t (List.mem_of_getElem? (by simpa using ht))⟩)
    (by kernel_rfl)
#print axioms card
end Go.Proofs.YtheojhajckcdlaaGreatDoor.topShifted
