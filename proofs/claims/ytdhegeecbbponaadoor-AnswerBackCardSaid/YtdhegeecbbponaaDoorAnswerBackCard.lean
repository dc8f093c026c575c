/-
  AnswerBack, the row: for every input the law returns true, and each argument reads afterwards as before; its listed variables are tied to the program's text.
-/
import Derived.Test.YtdhegeecbbponaaDoorRows
import Derived.Lay
import Derived.Test.YtdhegeecbbponaaDoorCards
import Derived.Test.YtdhegeecbbponaaDoorTie
import Derived.SevenTiedAt
import Derived.Test.YtdhegeecbbponaaDoorMWW
import Derived.Test.YtdhegeecbbponaaDoorMBB
import Derived.Test.YtdhegeecbbponaaDoorMZ
import Derived.Test.YtdhegeecbbponaaDoorMC
set_option linter.unusedVariables false
set_option linter.unusedSimpArgs false
namespace Go.Proofs.YtdhegeecbbponaaDoor.answerBack
open Nt.Ev Nt.Ev.YtdhegeecbbponaaDoor Go.ChangeShapes Go.WideShapes Go.ChangeAt Go.RowKit Nt Nt.Num
open Go.ChangeMaps (open_string shut_string)

theorem own : ownKnob Tryd.prog.godebug = none := by kernel_rfl
theorem laidOut : laidOutB Tryd.prog = true := by kernel_rfl

theorem globs {W : World} (h : laidMetH Tryd.prog Rows.answerBackRow.laid W) : GlobOk uE (heapG W) := by
  rw [MakeChecks.laidMetH_plain _ _ _ (by kernel_rfl)] at h
  obtain ⟨ps, ⟨g0, t0, cs0, f0, p0, q0, hg0, ht0, hv0, hd0, ⟨g1, t1, cs1, f1, p1, q1, hg1, ht1, hv1, hd1, ⟨g2, t2, cs2, f2, p2, q2, hg2, ht2, hv2, hd2, _, _⟩, _⟩, _⟩, _, _⟩ := h
  obtain rfl := Option.some.inj ((show Tryd.prog.globalNamed "noontide/stamp.signs" = some 0 by kernel_rfl).symm.trans hg1)
  obtain rfl := Option.some.inj ((show (Tryd.prog.globals[0]?).map (·.type) = some 97 by kernel_rfl).symm.trans ht1)
  intro n v hv
  unfold uE at hv
  simp only at hv
  cases e1 : n == 0 with
  | true =>
    rw [e1] at hv
    obtain rfl : n = 0 := by simpa using e1
    simp only [cond_true, cond_false, Option.some.injEq] at hv
    subst hv
    exact ⟨by kernel_rfl, glob_data (f := 8) hg1 hv1 hd1 (by kernel_rfl) (by kernel_rfl)⟩
  | false =>
    rw [e1] at hv
    cases hv

set_option maxRecDepth 100000 in
theorem lifted (os : Os) (started : os.Started) (H : Type) (enc : TypeId × Value → H) :
    ReturnsInHanded {} Tryd.checked os 4 .any (fun w args => (Rows.answerBackSpec.pre enc Tryd.prog Tryd.f4 [] false w args ∧ laidMetH Tryd.prog Rows.answerBackRow.laid w) ∧ sizedMet enc Tryd.prog Tryd.f4 (OpenSpec.ofChange Rows.answerBackSpec) false w args)
      (Rows.answerBackSpec.post enc Tryd.prog Tryd.f4 false true false false) := by
  refine returnsInHanded_and_shaped (C := Tryd.checked) (X := fun w _ => laidMetH Tryd.prog Rows.answerBackRow.laid w) (fun _ _ _ hh h => h.of_heap hh) own started (by kernel_rfl) Tryd.func4
    (ChangeSpec.witness_shaped (enc := enc) (C := Tryd.checked) (os := os) (X := fun w _ => laidMetH Tryd.prog Rows.answerBackRow.laid w) false (World.laidAll Tryd.prog os Rows.answerBackRow.laid) #[.agg #[.int .i64 0, .int .i64 0, .int .i64 0, .int .i64 0, .int .i64 0, .string ⟨#[]⟩, .int .i64 0, .int .i64 0, .int .i64 0, .int .i64 0, .string ⟨#[]⟩], .string ⟨#[]⟩] 8 (World.laidAll_os _ _ _) (World.shaped_of_ZipB (by kernel_rfl) (by kernel_rfl)) (by kernel_rfl) (by kernel_rfl) (by kernel_rfl)
      (by rw [MakeChecks.laidMetH_plain _ _ _ (by kernel_rfl)]; exact laidMet_laidAll _ (by kernel_rfl) (by kernel_rfl))) ?_
  intro W base args ds gs before hval0 hW _ hsz0 hL hS
  have hval : ∀ (j : Nat) t v, Tryd.f4.params[j]? = some t → args[j]? = some v → Value.okWide Tryd.prog W .any base t v := hval0
  have hsz : (DataW.weightsEach Tryd.prog (Tryd.f4.params.toList ++ Rows.answerBackSpec.plain.varTypes Tryd.prog) (ds ++ gs)).all (· ≤ reachBytes) = true := hsz0
  have hW' := hW
  obtain ⟨p, q, hA0, hV, rfl, hfz, hnd⟩ := hW
  have hA : DataW.TrodAll enc Tryd.prog W 0 (fun _ => true) true Tryd.f4.params.toList args.toList ds p := hA0
  rw [Tryd.params4] at hA hval hsz
  have hAll := hA
  obtain ⟨v0, vs0, d0, ds0, p0, q0, hargs, rfl, rfl, h0, r0⟩ := trodAll_cons hA
  obtain ⟨v1, vs1, d1, ds1, p1, q1, rfl, rfl, rfl, h1, r1⟩ := trodAll_cons r0
  obtain ⟨rfl, rfl, rfl⟩ := trodAll_nil r1
  obtain rfl : args = #[v0, v1] := by cases args; simp_all
  obtain ⟨rfl, rfl⟩ := trodVars_none hV
  obtain ⟨a0, xs0, rfl, hp0, hf0, ho0⟩ := open_fit (sh := [.int .i64, .int .i64, .int .i64, .int .i64, .int .i64, .str, .int .i64, .int .i64, .int .i64, .int .i64, .str]) (by kernel_rfl) (by kernel_rfl) (by kernel_rfl) (hval 0 29 v0 rfl rfl) h0
  obtain ⟨a0_0, t0_0, rfl, w0_0, hf0, ho0⟩ := fitsL_int hf0 ho0
  obtain ⟨a0_1, t0_1, rfl, w0_1, hf0, ho0⟩ := fitsL_int hf0 ho0
  obtain ⟨a0_2, t0_2, rfl, w0_2, hf0, ho0⟩ := fitsL_int hf0 ho0
  obtain ⟨a0_3, t0_3, rfl, w0_3, hf0, ho0⟩ := fitsL_int hf0 ho0
  obtain ⟨a0_4, t0_4, rfl, w0_4, hf0, ho0⟩ := fitsL_int hf0 ho0
  obtain ⟨a0_5, t0_5, rfl, w0_5, hf0, ho0⟩ := fitsL_str hf0 ho0
  obtain ⟨a0_6, t0_6, rfl, w0_6, hf0, ho0⟩ := fitsL_int hf0 ho0
  obtain ⟨a0_7, t0_7, rfl, w0_7, hf0, ho0⟩ := fitsL_int hf0 ho0
  obtain ⟨a0_8, t0_8, rfl, w0_8, hf0, ho0⟩ := fitsL_int hf0 ho0
  obtain ⟨a0_9, t0_9, rfl, w0_9, hf0, ho0⟩ := fitsL_int hf0 ho0
  obtain ⟨a0_10, t0_10, rfl, w0_10, hf0, ho0⟩ := fitsL_str hf0 ho0
  obtain rfl := fitsL_nil hf0
  obtain ⟨a1, rfl, rfl, _, w1⟩ := open_string Tryd.underlying9 (hval 1 9 v1 rfl rfl) h1
  clear hA0 hval0
  refine (contract_row (E := uE) (args := [.agg [.int .i64 a0_0, .int .i64 a0_1, .int .i64 a0_2, .int .i64 a0_3, .int .i64 a0_4, .str a0_5, .int .i64 a0_6, .int .i64 a0_7, .int .i64 a0_8, .int .i64 a0_9, .str a0_10], .str a1.data.toList]) (vs := [.agg a0, .string a1]) (An.aB_ev a0_0 a0_1 a0_2 a0_3 a0_4 a0_5 a0_6 a0_7 a0_8 a0_9 a0_10 a1.data.toList (sized_agg hsz (j := 0) rfl rfl (by kernel_rfl) h0 hp0 a0_5 (by simp)) (sized_agg hsz (j := 0) rfl rfl (by kernel_rfl) h0 hp0 a0_10 (by simp)) (sized_str hsz (j := 1) rfl rfl) (An.fb_w (bounds_i64 w0_1)) (An.fb_w (bounds_i64 w0_2)) (An.fb_w (bounds_i64 w0_3)) (An.fb_w (bounds_i64 w0_4)) (An.fb_w (bounds_i64 w0_6)) (An.fb_w (bounds_i64 w0_7)) (An.fb_w (bounds_i64 w0_8)) (An.fb_w (bounds_i64 w0_9))) (globs hL) (.cons (by unfold rep; exact ⟨a0.toList, by simp, (repL_iff _ _).2 hp0⟩) (.cons (by unfold rep; cases a1; simp) .nil))).mono fun e W' ⟨he, bel⟩ => ?_
  subst he
  exact ⟨_, rfl, _, _, _, [], _, [], hW', trodAll_mk1 (shut_bool Tryd.underlying4 _), trodAll_below laidOut bel _ _ _ _ (by kernel_rfl) hAll, rfl, bel.frame _, fun h => by cases h⟩

theorem over : Rows.AnswerBackSaid :=
  OpenClaim.holds_of_wide 4 Tryd.f4 rfl rfl rfl rfl rfl rfl rfl ⟨rfl, rfl, rfl, rfl, rfl⟩ rfl rfl rfl rfl rfl (by kernel_rfl) Tryd.func4 (by kernel_rfl)
    (of_decide_eq_true (by kernel_rfl)) (by unfold Func.isWrapper; rw [if_neg (of_decide_eq_false (by kernel_rfl))]; exact ⟨rfl, rfl⟩)
    (fun os started H enc _ => lifted os started H enc)

theorem card : Rows.AnswerBackCardSaid :=
  Claim7.holds_tied_plain_at .later [] _ true _ _
    over (fun _ h => by cases h) (by kernel_rfl) (fun _ h => by cases h) answerBack_row_tie rfl ⟨rfl, rfl⟩ (by kernel_rfl) rfl
    (fun f fn hf hfn => by
      obtain rfl : f = 4 := Option.some.inj ((show Tryd.prog.funcNamed "noontide/noontidelaw45.AnswerBack" = some 4 by kernel_rfl).symm.trans hf) |>.symm
      obtain rfl : fn = Tryd.f4 := (Option.some.inj (Tryd.func4.symm.trans hfn)).symm
      exact ⟨by kernel_rfl, fun j t ht => by
        rw [Tryd.params4] at ht
        have key : ∀ t ∈ [29, 9], Tryd.prog.wantsStandIn t = false := by
          intro t h
          simp only [List.mem_cons, List.mem_nil_iff, or_false] at h
          rcases h with rfl | rfl | rfl | rfl | rfl | rfl | rfl | rfl <;> kernel_rfl
        exact key t (List.mem_of_getElem? (by simpa using ht))⟩)
    (by kernel_rfl)
#print axioms card
end Go.Proofs.YtdhegeecbbponaaDoor.answerBack
