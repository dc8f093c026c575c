/-
  DERIVED. GIVEN WITH THE SEED: THE PROGRAM's TIES (one call each: nine closed facts by the kernel) AND EACH ROW's TIE, after the 31st guide's Derived/Test/Toyas{Tie, Card}.lean. No idea stands in it: it is a product of the set-up. Laid BY PROGRAM, IN A SANDBOX (cutbox-door.mjs). By AI agents, Wed Nov 11 2026. No macro, syntax, notation, axiom, sorry.
-/
import Derived.Test.YtknhlobahpgkeaaGreatDoorRows
import Derived.LaidByTextLater
import Derived.SevenTiedAt
import Derived.LaidSub
import Derived.LaidOnce
namespace Go.Proofs.YtknhlobahpgkeaaGreatDoor
open Go
set_option maxRecDepth 100000
theorem seatTie1 : Tryz.prog.laidByTextLater [("noontide/words.months", Rows.laid_noontide_words_months), ("noontide/words.weekdays", Rows.laid_noontide_words_weekdays), ("unicode/utf8.acceptRanges", Rows.laid_unicode_utf8_acceptRanges), ("noontide/amount.parts", Rows.laid_noontide_amount_parts), ("noontide/era.first", Rows.laid_noontide_era_first)] [.widerDeep, .widerDeep, .data, .wider, .data] true :=
  Program.laidByTextLater_by_one 42 8 33 (by kernel_rfl) (by kernel_rfl) (by kernel_rfl) (by kernel_rfl) (by kernel_rfl) (by kernel_rfl) (fun _ _ => by kernel_rfl)
theorem pin_laid_unicode_utf8_first : Tryz.pinned.checked.prog.pinnedFits "unicode/utf8.first" = true := by kernel_rfl
theorem noOwnUnsafe : Tryz.pinned.checked.prog.headLifts.contains "ownunsafe" = false := by kernel_rfl
theorem fits1 : Tryz.pinned.checked.prog.listedFits [("noontide/words.months", Rows.laid_noontide_words_months), ("noontide/words.weekdays", Rows.laid_noontide_words_weekdays), ("unicode/utf8.acceptRanges", Rows.laid_unicode_utf8_acceptRanges), ("noontide/amount.parts", Rows.laid_noontide_amount_parts), ("noontide/era.first", Rows.laid_noontide_era_first), ("unicode/utf8.first", Rows.laid_unicode_utf8_first)] = true := by
  unfold Program.listedFits
  rw [noOwnUnsafe]
  kernel_rfl
theorem tie : Tryz.prog.laidByTextLater [("noontide/words.months", Rows.laid_noontide_words_months), ("noontide/words.weekdays", Rows.laid_noontide_words_weekdays), ("unicode/utf8.acceptRanges", Rows.laid_unicode_utf8_acceptRanges), ("noontide/amount.parts", Rows.laid_noontide_amount_parts), ("noontide/era.first", Rows.laid_noontide_era_first)] [.widerDeep, .widerDeep, .data, .wider, .data] true :=
  Program.laidByTextLater.sub seatTie1 ["noontide/words.months", "noontide/words.weekdays", "unicode/utf8.acceptRanges", "noontide/amount.parts", "noontide/era.first"] (by kernel_rfl) (by kernel_rfl)
theorem renderOne_row_tie : Rows.renderOneRow.laidByTextAt .later Tryz.pinned [.widerDeep, .widerDeep, .data, .wider, .data, .pinned] true :=
  OpenClaim.laidByTextAt_pinned rfl rfl tie rfl rfl rfl rfl (fun y hy _e => by
    simp only [Rows.renderOneRow, List.zip_cons_cons, List.zip_nil_right, List.mem_cons, List.mem_nil_iff, or_false] at hy
    rcases hy with rfl | rfl | rfl | rfl | rfl | rfl
    · cases _e
    · cases _e
    · cases _e
    · cases _e
    · cases _e
    · exact ⟨pin_laid_unicode_utf8_first, by kernel_rfl⟩) fits1
theorem renderOneUpto_row_tie : Rows.renderOneUptoRow.laidByTextAt .later Tryz.pinned [.widerDeep, .widerDeep, .data, .wider, .data, .pinned] true :=
  OpenClaim.laidByTextAt_pinned rfl rfl tie rfl rfl rfl rfl (fun y hy _e => by
    simp only [Rows.renderOneUptoRow, List.zip_cons_cons, List.zip_nil_right, List.mem_cons, List.mem_nil_iff, or_false] at hy
    rcases hy with rfl | rfl | rfl | rfl | rfl | rfl
    · cases _e
    · cases _e
    · cases _e
    · cases _e
    · cases _e
    · exact ⟨pin_laid_unicode_utf8_first, by kernel_rfl⟩) fits1
end Go.Proofs.YtknhlobahpgkeaaGreatDoor
