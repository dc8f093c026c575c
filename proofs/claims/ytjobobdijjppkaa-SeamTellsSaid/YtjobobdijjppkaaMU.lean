/-
  SpansLaw: equations of functions, as the evaluator prints them. Spans: the statements SpansTell, SpansSeconds. Spans: the statements SpansTell, SpansSeconds as contracts.
-/
import Derived.Test.YtjobobdijjppkaaMT
import Derived.Test.YtjobobdijjppkaaMZ
set_option linter.unusedVariables false
set_option linter.unusedSimpArgs false
set_option linter.unusedSectionVars false
namespace Nt.Ev.Ytjobobdijjppkaa.Sp
open Go Nt.Num Go.Proofs.Ytjobobdijjppkaa
noncomputable def saB (xs ys : List V) : Bool := decide (spsOf xs = spsOf ys)
noncomputable def sGaS : FSpec := fun a => match a with | [x, .agg [.int .i64 a, .int .i64 b]] => some (band (isSp x) (ile (llen (xsOf x)) 30000), .sl 24 [.int .i64, .int .i64] none (leV [.agg [.int .i64 a, .int .i64 b]] (xsOf x))) | _ => none
noncomputable def sFiS : FSpec := fun a => match a with | [x, .int .i64 t] => some (band (isSp x) (ile (llen (xsOf x)) 30000), .tup [.agg [.int .i64 (fdF (xsOf x) t), .int .i64 (fdT (xsOf x) t)], .bool (fdB (xsOf x) t)]) | _ => none
noncomputable def sSaS : FSpec := fun a => match a with | [x, y] => some (band (band (isSp x) (isSp y)) (band (ile (llen (xsOf x)) 1000000) (ile (llen (xsOf y)) 1000000)), .bool (saB (xsOf x) (xsOf y))) | _ => none
end Nt.Ev.Ytjobobdijjppkaa.Sp

set_option linter.unusedVariables false
set_option linter.unusedSimpArgs false
set_option linter.unusedSectionVars false
namespace Nt.Ev.Ytjobobdijjppkaa.Sp
open Go Go.RowKit Nt Nt.Num Nt.Sps Go.Proofs.Ytjobobdijjppkaa
theorem con1y {E : Env} {f : Nat} {x y r : V} (hx : isSp x = true) (h : Contract E f [.sl 24 K2 none (xsOf x), y] r) : Contract E f [x, y] r := by
  intro G w vs hG hg hp
  obtain ⟨a, b, rfl, ha, hb⟩ := PW_two hp
  exact h G w _ hG hg (.cons (rep_sp hx ha) (.cons hb .nil))
theorem sGaS_ok (x : V) (a b : Int) (hc : band (isSp x) (ile (llen (xsOf x)) 30000) = true) : Contract sE 25 [x, .agg [.int .i64 a, .int .i64 b]] (.sl 24 [.int .i64, .int .i64] none (leV [.agg [.int .i64 a, .int .i64 b]] (xsOf x))) := by
  rw [band_iff, ile_iff, llen_nat] at hc
  exact con1y hc.1 (pGaps_ev _ a b (by omega))
theorem sGaS_ok_noontideref11_Gaps (x : V) (a b : Int) (hc : band (isSp x) (ile (llen (xsOf x)) 30000) = true) : Contract sE 26 [x, .agg [.int .i64 a, .int .i64 b]] (.sl 24 [.int .i64, .int .i64] none (leV [.agg [.int .i64 a, .int .i64 b]] (xsOf x))) := by
  rw [band_iff, ile_iff, llen_nat] at hc
  exact con1y hc.1 (pGaps11_ev _ a b (by omega))
theorem sFiS_ok (x : V) (t : Int) (hc : band (isSp x) (ile (llen (xsOf x)) 30000) = true) : Contract sE 10 [x, .int .i64 t] (.tup [.agg [.int .i64 (fdF (xsOf x) t), .int .i64 (fdT (xsOf x) t)], .bool (fdB (xsOf x) t)]) := by
  rw [band_iff, ile_iff, llen_nat] at hc
  exact con1y hc.1 (pFind_ev _ t (by omega))
theorem same_loop (xs ys : List V) (x4 : Bool) (F : Nat) (hl : xs.length ≤ 1000000) (he : xs.length = ys.length) : ∀ (j i n : Nat), i + j = xs.length → j < n →
    pSame10_L0 F [] n xs ys x4 (llen xs) (i : Int) some = some (.bool (decide ((spsOf xs).drop i = (spsOf ys).drop i))) := by
  intro j
  induction j with
  | zero =>
    intro i n hi hn
    obtain ⟨n, rfl⟩ : ∃ m, n = m + 1 := ⟨n - 1, by omega⟩
    rw [pSame10_L0_succ, sel_neg (ilt_f (by rw [llen_nat]; omega)), List.drop_of_length_le (by rw [sps_len]; omega), List.drop_of_length_le (by rw [sps_len]; omega)]
    rfl
  | succ j ih =>
    intro i n hi hn
    obtain ⟨n, rfl⟩ : ∃ m, n = m + 1 := ⟨n - 1, by omega⟩
    rw [pSame10_L0_succ, sel_pos (ilt_t (by rw [llen_nat]; omega)), sel_pos (by rw [band_iff, ile_iff, ilt_iff, llen_nat]; omega), sel_pos (by rw [band_iff, ile_iff, ilt_iff, llen_nat]; omega), sps_drop xs i (by omega), sps_drop ys i (by omega), iadd64 (by omega), show (i : Int) + 1 = ((i + 1 : Nat) : Int) by omega, ih (i + 1) n (by omega) (by omega)]
    by_cases h : asInt (acell (lget xs (i : Int)) 0) = asInt (acell (lget ys (i : Int)) 0) ∧ asInt (acell (lget xs (i : Int)) 1) = asInt (acell (lget ys (i : Int)) 1)
    · rw [sel_neg (by rw [← Bool.not_eq_true, bnot_iff, Classical.not_not, band_iff, ieq_iff, ieq_iff]; exact h), h.1, h.2]
      congr 2
      rw [decide_eq_decide]
      simp
    · rw [sel_pos (by rw [bnot_iff, band_iff, ieq_iff, ieq_iff]; exact h)]
      congr 2
      symm
      rw [decide_eq_false_iff_not]
      intro e
      have := (List.cons.inj e).1
      exact h ⟨congrArg Prod.fst this, congrArg Prod.snd this⟩
theorem sSaS_ok (x y : V) (hc : band (band (isSp x) (isSp y)) (band (ile (llen (xsOf x)) 1000000) (ile (llen (xsOf y)) 1000000)) = true) : Contract sE 16 [x, y] (.bool (saB (xsOf x) (xsOf y))) := by
  rw [band_iff, band_iff, band_iff, ile_iff, ile_iff, llen_nat, llen_nat] at hc
  obtain ⟨⟨c1, c2⟩, c3, c4⟩ := hc
  refine con2 c1 c2 (contract_of_body sE_ok sS_ok ((xsOf x).length + 2) 2 ?_)
  rw [pSame10_top]
  by_cases he : (xsOf x).length = (xsOf y).length
  · rw [sel_neg (by rw [← Bool.not_eq_true, bnot_iff, Classical.not_not, ieq_iff, llen_nat, llen_nat]; omega)]
    exact same_loop (xsOf x) (xsOf y) false _ (by omega) he (xsOf x).length 0 _ (by omega) (by omega)
  · rw [sel_pos (by rw [bnot_iff, ieq_iff, llen_nat, llen_nat]; omega)]
    have : saB (xsOf x) (xsOf y) = false := by
      unfold saB
      rw [decide_eq_false_iff_not]
      intro e
      have := congrArg List.length e
      rw [sps_len, sps_len] at this
      exact he this
    rw [this]
end Nt.Ev.Ytjobobdijjppkaa.Sp

set_option linter.unusedVariables false
set_option linter.unusedSimpArgs false
set_option linter.unusedSectionVars false
namespace Nt.Ev.Ytjobobdijjppkaa.Sp
open Go Go.RowKit Nt Nt.Num Nt.Sps Go.Proofs.Ytjobobdijjppkaa
theorem st (x y : Option V) : sel true x y = x := rfl
theorem band_t (b : Bool) : band true b = b := rfl
theorem ieq_self (a : Int) : ieq a a = true := by rw [ieq_iff]
theorem beq_self (a : Bool) : beq a a = true := by rw [beq_iff]
theorem saB_self (xs : List V) : saB xs xs = true := by unfold saB; exact decide_eq_true rfl
theorem leV_len (xs ys : List V) : (leV xs ys).length ≤ xs.length + ys.length := by
  unfold leV lessL
  rw [spV_len]
  have h1 := of_len (spsOf xs)
  rw [sps_len] at h1
  have : ∀ (l A : List Sp), Canon A → (l.foldl less2 A).length ≤ A.length + l.length := by
    intro l
    induction l with
    | nil => intro A _; simp
    | cons x l ih =>
      intro A hA
      have k1 := ih (less2 A x) (less2_ok x hA).1
      have k2 := less2_len (y := x) hA
      rw [List.foldl_cons, List.length_cons]; omega
  have := this (spsOf ys) _ (of_canon (spsOf xs))
  rw [sps_len] at this
  omega
theorem ll (L : List V) (n : Int) (h : (L.length : Int) ≤ n) : ile (llen L) n = true := ile_t (by rw [llen_nat]; exact h)
end Nt.Ev.Ytjobobdijjppkaa.Sp
