/-
  RenderTells, the row: for every input the law returns true, and each argument reads afterwards as before; its listed variables are tied to the program's text.
-/
import Derived.Test.YtjkfndcpiihniaaGreatDoorRows
import Derived.Lay
import Derived.Test.YtjkfndcpiihniaaGreatDoorCards
import Derived.Test.YtjkfndcpiihniaaGreatDoorTie
import Derived.SevenTiedAt
import Derived.Test.YtjkfndcpiihniaaGreatDoorMXH
import Derived.Test.YtjkfndcpiihniaaGreatDoorMBB
import Derived.Test.YtjkfndcpiihniaaGreatDoorMZ
import Derived.Test.YtjkfndcpiihniaaGreatDoorMC
set_option linter.unusedVariables false
set_option linter.unusedSimpArgs false
namespace Go.Proofs.YtjkfndcpiihniaaGreatDoor.renderTells
open Nt.Ev Nt.Ev.YtjkfndcpiihniaaGreatDoor Go.ChangeShapes Go.WideShapes Go.ChangeAt Go.RowKit Nt Nt.Num
open Go.ChangeMaps (open_string shut_string)

theorem own : ownKnob Tryz.prog.godebug = none := by kernel_rfl
theorem laidOut : laidOutB Tryz.prog = true := by kernel_rfl

theorem globs {W : World} {m : Int} (h : laidMetH Tryz.prog Rows.renderTellsRow.laid W) (hm : W.cell? ⟨3, 0, none⟩ = some (.int .i64 m)) : GlobOk (@Rx.rE ⟨m⟩) (heapG W) := by
  letI : MLen := ⟨m⟩
  rw [MakeChecks.laidMetH_plain _ _ _ (by kernel_rfl)] at h
  obtain ⟨ps, ⟨g0, t0, cs0, f0, p0, q0, hg0, ht0, hv0, hd0, ⟨g1, t1, cs1, f1, p1, q1, hg1, ht1, hv1, hd1, ⟨g2, t2, cs2, f2, p2, q2, hg2, ht2, hv2, hd2, ⟨g3, t3, cs3, f3, p3, q3, hg3, ht3, hv3, hd3, ⟨g4, t4, cs4, f4, p4, q4, hg4, ht4, hv4, hd4, _, _⟩, _⟩, _⟩, _⟩, _⟩, _, _⟩ := h
  obtain rfl := Option.some.inj ((show Tryz.prog.globalNamed "noontide/era.first" = some 1 by kernel_rfl).symm.trans hg3)
  obtain rfl := Option.some.inj ((show (Tryz.prog.globals[1]?).map (·.type) = some 41 by kernel_rfl).symm.trans ht3)
  obtain rfl := Option.some.inj ((show Tryz.prog.globalNamed "noontide/words.weekdays" = some 2 by kernel_rfl).symm.trans hg1)
  obtain rfl := Option.some.inj ((show (Tryz.prog.globals[2]?).map (·.type) = some 116 by kernel_rfl).symm.trans ht1)
  obtain rfl := Option.some.inj ((show Tryz.prog.globalNamed "noontide/words.months" = some 0 by kernel_rfl).symm.trans hg0)
  obtain rfl := Option.some.inj ((show (Tryz.prog.globals[0]?).map (·.type) = some 100 by kernel_rfl).symm.trans ht0)
  intro n v hv
  unfold Rx.rE at hv
  simp only at hv
  cases e3 : n == 1 with
  | true =>
    rw [e3] at hv
    obtain rfl : n = 1 := by simpa using e3
    simp only [cond_true, cond_false, Option.some.injEq] at hv
    subst hv
    exact ⟨by kernel_rfl, glob_data (f := 8) hg3 hv3 hd3 (by kernel_rfl) (by kernel_rfl)⟩
  | false =>
    rw [e3] at hv
    cases e1 : n == 2 with
    | true =>
      rw [e1] at hv
      obtain rfl : n = 2 := by simpa using e1
      simp only [cond_true, cond_false, Option.some.injEq] at hv
      subst hv
      exact ⟨by kernel_rfl, glob_data (f := 8) hg1 hv1 hd1 (by kernel_rfl) (by kernel_rfl)⟩
    | false =>
      rw [e1] at hv
      cases e0 : n == 0 with
      | true =>
        rw [e0] at hv
        obtain rfl : n = 0 := by simpa using e0
        simp only [cond_true, cond_false, Option.some.injEq] at hv
        subst hv
        exact ⟨by kernel_rfl, glob_data (f := 8) hg0 hv0 hd0 (by kernel_rfl) (by kernel_rfl)⟩
      | false =>
        rw [e0] at hv
        cases em : n == 3 with
        | true =>
          rw [em] at hv
          obtain rfl : n = 3 := by simpa using em
          simp only [cond_true, cond_false, Option.some.injEq] at hv
          subst hv
          exact ⟨rfl, glob_cell hm⟩
        | false => rw [em] at hv; cases hv

set_option maxRecDepth 100000 in
theorem lifted (os : Os) (started : os.Started) (H : Type) (enc : TypeId × Value → H) :
    ReturnsInHanded {} Tryz.checked os 3 .any (fun w args => (Rows.renderTellsSpec.pre enc Tryz.prog Tryz.f3 [] false w args ∧ laidMetH Tryz.prog Rows.renderTellsRow.laid w) ∧ sizedMet enc Tryz.prog Tryz.f3 (OpenSpec.ofChange Rows.renderTellsSpec) false w args)
      (Rows.renderTellsSpec.post enc Tryz.prog Tryz.f3 false true false false) := by
  refine returnsInHanded_and_shaped (C := Tryz.checked) (X := fun w _ => laidMetH Tryz.prog Rows.renderTellsRow.laid w) (fun _ _ _ hh h => h.of_heap hh) own started (by kernel_rfl) Tryz.func3
    (ChangeSpec.witness_shaped (enc := enc) (C := Tryz.checked) (os := os) (X := fun w _ => laidMetH Tryz.prog Rows.renderTellsRow.laid w) false (World.laidAll Tryz.prog os Rows.renderTellsRow.laid) #[.agg #[.slice none 0 0, .slice none 0 0, .slice none 0 0], .agg #[.slice none 0 0, .slice none 0 0, .slice none 0 0]] 8 (World.laidAll_os _ _ _) (World.shaped_of_ZipB (by kernel_rfl) (by kernel_rfl)) (by kernel_rfl) (by kernel_rfl) (by kernel_rfl)
      (by rw [MakeChecks.laidMetH_plain _ _ _ (by kernel_rfl)]; exact laidMet_laidAll _ (by kernel_rfl) (by kernel_rfl))) ?_
  intro W base args ds gs before hval0 hW _ hsz0 hL hS
  have hval : ∀ (j : Nat) t v, Tryz.f3.params[j]? = some t → args[j]? = some v → Value.okWide Tryz.prog W .any base t v := hval0
  have hsz : (DataW.weightsEach Tryz.prog (Tryz.f3.params.toList ++ Rows.renderTellsSpec.plain.varTypes Tryz.prog) (ds ++ gs)).all (· ≤ reachBytes) = true := hsz0
  have hW' := hW
  obtain ⟨p, q, hA0, hV, rfl, hfz, hnd⟩ := hW
  have hA : DataW.TrodAll enc Tryz.prog W 0 (fun _ => true) true Tryz.f3.params.toList args.toList ds p := hA0
  rw [Tryz.params3] at hA hval hsz
  have hAll := hA
  obtain ⟨v0, vs0, d0, ds0, p0, q0, hargs, rfl, rfl, h0, r0⟩ := trodAll_cons hA
  obtain ⟨v1, vs1, d1, ds1, p1, q1, rfl, rfl, rfl, h1, r1⟩ := trodAll_cons r0
  obtain ⟨rfl, rfl, rfl⟩ := trodAll_nil r1
  obtain rfl : args = #[v0, v1] := by cases args; simp_all
  obtain ⟨rfl, rfl⟩ := trodVars_none hV
  obtain ⟨a0, cs0, rfl, hp0, hf0, ho0⟩ := open_fit2 (sh := [.sl 49 [.str, .int .i64, .int .i64, .int .i64, .int .i64, .int .i64, .int .i64, .int .i64, .int .i64, .int .i64, .str], .sl 36 [.str, .sl 47 [.int .i64, .int .i64, .int .i64, .str, .str, .bool, .int .i64, .int .i64, .int .i64, .int .i64, .int .i64, .int .i64, .int .i64]], .sl 39 [.str, .str]]) (by kernel_rfl) (by kernel_rfl) (by kernel_rfl) (hval 0 26 v0 rfl rfl) h0
  obtain ⟨x0, y0, z0, rfl, tb0, fr0, fe0⟩ := Rx.tab_cells (P := Tryz.prog) (by kernel_rfl) (by kernel_rfl) (by kernel_rfl) (by kernel_rfl) hf0 ho0
  obtain ⟨a1, cs1, rfl, hp1, hf1, ho1⟩ := open_fit2 (sh := [.sl 49 [.str, .int .i64, .int .i64, .int .i64, .int .i64, .int .i64, .int .i64, .int .i64, .int .i64, .int .i64, .str], .sl 36 [.str, .sl 47 [.int .i64, .int .i64, .int .i64, .str, .str, .bool, .int .i64, .int .i64, .int .i64, .int .i64, .int .i64, .int .i64, .int .i64]], .sl 39 [.str, .str]]) (by kernel_rfl) (by kernel_rfl) (by kernel_rfl) (hval 1 26 v1 rfl rfl) h1
  obtain ⟨x1, y1, z1, rfl, tb1, fr1, fe1⟩ := Rx.tab_cells (P := Tryz.prog) (by kernel_rfl) (by kernel_rfl) (by kernel_rfl) (by kernel_rfl) hf1 ho1
  clear hA0 hval0
  obtain ⟨m, hm⟩ := Go.Proofs.Tryz.laysM219.s1_3 W hS
  letI : MLen := ⟨m⟩
  refine (contract_row (E := Rx.rE) (args := [.agg [x0, y0, z0], .agg [x1, y1, z1]]) (vs := [.agg a0, .agg a1]) (Rx.rdr_all x0 y0 z0 x1 y1 z1 tb0 tb1 fr0 fe0) (globs hL hm) (.cons (by unfold rep; exact ⟨a0.toList, by simp, (repL_iff _ _).2 hp0⟩) (.cons (by unfold rep; exact ⟨a1.toList, by simp, (repL_iff _ _).2 hp1⟩) .nil))).mono fun e W' ⟨he, bel⟩ => ?_
  subst he
  exact ⟨_, rfl, _, _, _, [], _, [], hW', trodAll_mk1 (shut_bool Tryz.underlying4 _), trodAll_below laidOut bel _ _ _ _ (by kernel_rfl) hAll, rfl, bel.frame _, fun h => by cases h⟩

theorem over : Rows.RenderTellsSaid :=
  OpenClaim.holds_of_wide 3 Tryz.f3 rfl rfl rfl rfl rfl rfl rfl ⟨rfl, rfl, rfl, rfl, rfl⟩ rfl rfl rfl rfl rfl (by kernel_rfl) Tryz.func3 (by kernel_rfl)
    (of_decide_eq_true (by kernel_rfl)) (by unfold Func.isWrapper; rw [if_neg (of_decide_eq_false (by kernel_rfl))]; exact ⟨rfl, rfl⟩)
    (fun os started H enc _ => lifted os started H enc)

theorem card : Rows.RenderTellsCardSaid :=
  Claim7.holds_tied_plain_at .later [] _ true _ _
    over (fun _ h => by cases h) (by kernel_rfl) (fun _ h => by cases h) renderTells_row_tie rfl ⟨rfl, rfl⟩ (by kernel_rfl) rfl
    (fun f fn hf hfn => by
      obtain rfl : f = 3 := Option.some.inj ((show Tryz.prog.funcNamed "noontide/noontidelaw31.RenderTells" = some 3 by kernel_rfl).symm.trans hf) |>.symm
      obtain rfl : fn = Tryz.f3 := (Option.some.inj (Tryz.func3.symm.trans hfn)).symm
      exact ⟨by kernel_rfl, fun j t ht => by
        rw [Tryz.params3] at ht
        have key : ∀ t ∈ [26, 26], Tryz.prog.wantsStandIn t = false := by
          intro t h
          simp only [List.mem_cons, List.mem_nil_iff, or_false] at h
          rcases h with rfl | rfl | rfl | rfl | rfl | rfl | rfl | rfl <;> kernel_rfl
        exact key t (List.mem_of_getElem? (by simpa using ht))⟩)
    (by kernel_rfl)
#print axioms card
end Go.Proofs.YtjkfndcpiihniaaGreatDoor.renderTells
