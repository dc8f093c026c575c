/-
  NARROWER THAN 'FOR EVERY INPUT', by the rows' own cells (each row's printed sentence says how): FormatTells: laid · FormatHangs: laid · YearTells: laid · YearBack: laid · DayspecTells: laid · DayspecBack: laid · StampTells: laid · StampBack: laid · ClockTells: laid · ClockBack: laid · StampOrder: laid.
  DERIVED. THE GIVEN ROWS OF THIS SEAT. 11 by the template 'for every input the law returns true; each argument reads behind the call as it read before'; 0 by the template 'total and deterministic' (their statements: YtnchnnbggfeknaaDoorTotals.lean).
  GIVEN WITH THE SEED: the statements are not yours to turn. If you find one false, say at which input.
  Laid BY PROGRAM, IN A SANDBOX (cutbox-rows.mjs): the forced cells as the released guide's own fill.sh prints them over the translation 4321c8dd9d569765… (all of the seat's roots in one cut). By AI agents, Wed Nov 11 2026. No macro, syntax, notation, axiom, sorry.
-/
import Derived.Test.YtnchnnbggfeknaaDoorChecked
import GoSem.PinnedTables
import GoSem.Claim
import GoSem.ClaimJoined
import GoSem.ClaimMapViews
import Derived.JoinedTies
import Derived.KernelRfl
namespace Go.Proofs.YtnchnnbggfeknaaDoor
/- THE CELL 'sum', in the pinned program and in every row, IS THE sha256 OF THE DUMP (.gsa) THAT YtnchnnbggfeknaaDoorProg.lean LOADS. Nothing in Lean hashes anything: it is a label: what it is worth is what the hold of that sum in a sandbox is worth. -/
noncomputable def Tryd.pinned : Pinned := { name := "ytnchnnbggfeknaadoor", sum := "4321c8dd9d569765a06584d37ce81daa12b7bf93e2adcdb96d8a0b19f60c6a6b", checked := Tryd.checked }
namespace Rows
def none {H : Type} : Left H := { results := [], args := [] }

/- WHAT THE LISTED PACKAGE-LEVEL VARIABLES READ AS WHEN THE CALL BEGINS. Each datum BY PROGRAM (the guide's laid-datum.mjs) off the statement by which the dump's own 'gosem.cut.vars' lays the variable. In a bare row this is a premise. The card (YtnchnnbggfeknaaDoorCards.lean) ties it to the program's text. -/
def laid_unicode_utf8_acceptRanges {H : Type} : DataW H := .agg [.agg [.lit (.int .u8 128), .lit (.int .u8 191)], .agg [.lit (.int .u8 160), .lit (.int .u8 191)], .agg [.lit (.int .u8 128), .lit (.int .u8 159)], .agg [.lit (.int .u8 144), .lit (.int .u8 191)], .agg [.lit (.int .u8 128), .lit (.int .u8 143)], .agg [.lit (.int .u8 0), .lit (.int .u8 0)], .agg [.lit (.int .u8 0), .lit (.int .u8 0)], .agg [.lit (.int .u8 0), .lit (.int .u8 0)], .agg [.lit (.int .u8 0), .lit (.int .u8 0)], .agg [.lit (.int .u8 0), .lit (.int .u8 0)], .agg [.lit (.int .u8 0), .lit (.int .u8 0)], .agg [.lit (.int .u8 0), .lit (.int .u8 0)], .agg [.lit (.int .u8 0), .lit (.int .u8 0)], .agg [.lit (.int .u8 0), .lit (.int .u8 0)], .agg [.lit (.int .u8 0), .lit (.int .u8 0)], .agg [.lit (.int .u8 0), .lit (.int .u8 0)]]
/-- One of Go's own tables, pinned by name: the form's constant. -/
def laid_unicode_utf8_first : DataW Unit := Go.Pinned.utf8First
def laid_noontide_words_weekdays {H : Type} : DataW H := .agg [.lit (.string [83, 117, 110, 100, 97, 121]), .lit (.string [77, 111, 110, 100, 97, 121]), .lit (.string [84, 117, 101, 115, 100, 97, 121]), .lit (.string [87, 101, 100, 110, 101, 115, 100, 97, 121]), .lit (.string [84, 104, 117, 114, 115, 100, 97, 121]), .lit (.string [70, 114, 105, 100, 97, 121]), .lit (.string [83, 97, 116, 117, 114, 100, 97, 121])]
def laid_noontide_stamp_signs {H : Type} : DataW H := .agg [.lit (.int .u8 45), .lit (.int .u8 45), .lit (.int .u8 84), .lit (.int .u8 58), .lit (.int .u8 58)]
def laid_noontide_amount_parts {H : Type} : DataW H := .agg [.agg [.lit (.int .i64 1), .lit (.int .i64 3), .lit (.int .i64 3600)], .agg [.lit (.int .i64 2), .lit (.int .i64 2), .lit (.int .i64 60)], .agg [.lit (.int .i64 2), .lit (.int .i64 2), .lit (.int .i64 1)]]

/-- 'noontidelaw20.FormatTells': WHATEVER THE INPUT: true; the input reads as it did. -/
def formatTellsSpec : ChangeSpec := { name := "formatTells", fn := fun _ => fun
  | [d1, d2, d3, d4] => { results := [.lit (.bool true)], args := [d1, d2, d3, d4] }
  | _ => none }
def formatTellsRow : OpenClaim := { program := "ytnchnnbggfeknaadoor", sum := "4321c8dd9d569765a06584d37ce81daa12b7bf93e2adcdb96d8a0b19f60c6a6b", func := "noontide/noontidelaw20.FormatTells", spec := "formatTells", inPlace := ["internal/bytealg.IndexByteString", "internal/bytealg.IndexString"], recurses := true, named := ["internal/bytealg.MaxLen", "unicode/utf8.first", "unicode/utf8.acceptRanges"], apart := false, laid := [("unicode/utf8.acceptRanges", laid_unicode_utf8_acceptRanges), ("unicode/utf8.first", laid_unicode_utf8_first)] }
def FormatTellsSaid : Prop := formatTellsRow.holds Tryd.pinned (OpenSpec.ofChange formatTellsSpec)

/-- ITS FALSE NEIGHBOUR: 'it returns false'. Refute it at one input. -/
def formatTellsWrong : ChangeSpec := { name := "formatTells", fn := fun _ => fun
  | [d1, d2, d3, d4] => { results := [.lit (.bool false)], args := [d1, d2, d3, d4] }
  | _ => none }
def FormatTellsWrongFalsely : Prop := formatTellsRow.holds Tryd.pinned (OpenSpec.ofChange formatTellsWrong)

/-- 'noontidelaw20.FormatHangs': WHATEVER THE INPUT: true; the input reads as it did. -/
def formatHangsSpec : ChangeSpec := { name := "formatHangs", fn := fun _ => fun
  | [d1, d2, d3, d4, d5, d6] => { results := [.lit (.bool true)], args := [d1, d2, d3, d4, d5, d6] }
  | _ => none }
def formatHangsRow : OpenClaim := { program := "ytnchnnbggfeknaadoor", sum := "4321c8dd9d569765a06584d37ce81daa12b7bf93e2adcdb96d8a0b19f60c6a6b", func := "noontide/noontidelaw20.FormatHangs", spec := "formatHangs", inPlace := ["internal/bytealg.IndexByteString", "internal/bytealg.IndexString"], named := ["internal/bytealg.MaxLen", "unicode/utf8.first", "unicode/utf8.acceptRanges"], apart := false, laid := [("unicode/utf8.acceptRanges", laid_unicode_utf8_acceptRanges), ("unicode/utf8.first", laid_unicode_utf8_first)] }
def FormatHangsSaid : Prop := formatHangsRow.holds Tryd.pinned (OpenSpec.ofChange formatHangsSpec)

/-- ITS FALSE NEIGHBOUR: 'it returns false'. Refute it at one input. -/
def formatHangsWrong : ChangeSpec := { name := "formatHangs", fn := fun _ => fun
  | [d1, d2, d3, d4, d5, d6] => { results := [.lit (.bool false)], args := [d1, d2, d3, d4, d5, d6] }
  | _ => none }
def FormatHangsWrongFalsely : Prop := formatHangsRow.holds Tryd.pinned (OpenSpec.ofChange formatHangsWrong)

/-- 'noontidelaw17.YearTells': WHATEVER THE INPUT: true; the input reads as it did. -/
def yearTellsSpec : ChangeSpec := { name := "yearTells", fn := fun _ => fun
  | [d1, d2, d3] => { results := [.lit (.bool true)], args := [d1, d2, d3] }
  | _ => none }
def yearTellsRow : OpenClaim := { program := "ytnchnnbggfeknaadoor", sum := "4321c8dd9d569765a06584d37ce81daa12b7bf93e2adcdb96d8a0b19f60c6a6b", func := "noontide/noontidelaw17.YearTells", spec := "yearTells", inPlace := ["internal/bytealg.IndexByteString", "internal/bytealg.IndexString"], recurses := true, named := ["unicode/utf8.first", "unicode/utf8.acceptRanges", "internal/bytealg.MaxLen"], apart := false, laid := [("unicode/utf8.acceptRanges", laid_unicode_utf8_acceptRanges), ("unicode/utf8.first", laid_unicode_utf8_first)] }
def YearTellsSaid : Prop := yearTellsRow.holds Tryd.pinned (OpenSpec.ofChange yearTellsSpec)

/-- ITS FALSE NEIGHBOUR: 'it returns false'. Refute it at one input. -/
def yearTellsWrong : ChangeSpec := { name := "yearTells", fn := fun _ => fun
  | [d1, d2, d3] => { results := [.lit (.bool false)], args := [d1, d2, d3] }
  | _ => none }
def YearTellsWrongFalsely : Prop := yearTellsRow.holds Tryd.pinned (OpenSpec.ofChange yearTellsWrong)

/-- 'noontidelaw17.YearBack': WHATEVER THE INPUT: true; the input reads as it did. -/
def yearBackSpec : ChangeSpec := { name := "yearBack", fn := fun _ => fun
  | [d1, d2, d3] => { results := [.lit (.bool true)], args := [d1, d2, d3] }
  | _ => none }
def yearBackRow : OpenClaim := { program := "ytnchnnbggfeknaadoor", sum := "4321c8dd9d569765a06584d37ce81daa12b7bf93e2adcdb96d8a0b19f60c6a6b", func := "noontide/noontidelaw17.YearBack", spec := "yearBack", inPlace := ["internal/bytealg.IndexByteString", "internal/bytealg.IndexString"], named := ["unicode/utf8.first", "unicode/utf8.acceptRanges", "internal/bytealg.MaxLen"], apart := false, laid := [("unicode/utf8.acceptRanges", laid_unicode_utf8_acceptRanges), ("unicode/utf8.first", laid_unicode_utf8_first)] }
def YearBackSaid : Prop := yearBackRow.holds Tryd.pinned (OpenSpec.ofChange yearBackSpec)

/-- ITS FALSE NEIGHBOUR: 'it returns false'. Refute it at one input. -/
def yearBackWrong : ChangeSpec := { name := "yearBack", fn := fun _ => fun
  | [d1, d2, d3] => { results := [.lit (.bool false)], args := [d1, d2, d3] }
  | _ => none }
def YearBackWrongFalsely : Prop := yearBackRow.holds Tryd.pinned (OpenSpec.ofChange yearBackWrong)

/-- 'noontidelaw18.DayspecTells': WHATEVER THE INPUT: true; the input reads as it did. -/
def dayspecTellsSpec : ChangeSpec := { name := "dayspecTells", fn := fun _ => fun
  | [d1, d2] => { results := [.lit (.bool true)], args := [d1, d2] }
  | _ => none }
def dayspecTellsRow : OpenClaim := { program := "ytnchnnbggfeknaadoor", sum := "4321c8dd9d569765a06584d37ce81daa12b7bf93e2adcdb96d8a0b19f60c6a6b", func := "noontide/noontidelaw18.DayspecTells", spec := "dayspecTells", inPlace := ["internal/bytealg.IndexByteString", "internal/bytealg.IndexString"], unfollowed := true, recurses := true, named := ["noontide/words.weekdays", "unicode/utf8.first", "unicode/utf8.acceptRanges", "internal/bytealg.MaxLen"], apart := false, laid := [("noontide/words.weekdays", laid_noontide_words_weekdays), ("unicode/utf8.acceptRanges", laid_unicode_utf8_acceptRanges), ("unicode/utf8.first", laid_unicode_utf8_first)] }
def DayspecTellsSaid : Prop := dayspecTellsRow.holds Tryd.pinned (OpenSpec.ofChange dayspecTellsSpec)

/-- ITS FALSE NEIGHBOUR: 'it returns false'. Refute it at one input. -/
def dayspecTellsWrong : ChangeSpec := { name := "dayspecTells", fn := fun _ => fun
  | [d1, d2] => { results := [.lit (.bool false)], args := [d1, d2] }
  | _ => none }
def DayspecTellsWrongFalsely : Prop := dayspecTellsRow.holds Tryd.pinned (OpenSpec.ofChange dayspecTellsWrong)

/-- 'noontidelaw18.DayspecBack': WHATEVER THE INPUT: true; the input reads as it did. -/
def dayspecBackSpec : ChangeSpec := { name := "dayspecBack", fn := fun _ => fun
  | [d1, d2] => { results := [.lit (.bool true)], args := [d1, d2] }
  | _ => none }
def dayspecBackRow : OpenClaim := { program := "ytnchnnbggfeknaadoor", sum := "4321c8dd9d569765a06584d37ce81daa12b7bf93e2adcdb96d8a0b19f60c6a6b", func := "noontide/noontidelaw18.DayspecBack", spec := "dayspecBack", inPlace := ["internal/bytealg.IndexByteString", "internal/bytealg.IndexString"], unfollowed := true, recurses := true, named := ["noontide/words.weekdays", "unicode/utf8.first", "unicode/utf8.acceptRanges", "internal/bytealg.MaxLen"], apart := false, laid := [("noontide/words.weekdays", laid_noontide_words_weekdays), ("unicode/utf8.acceptRanges", laid_unicode_utf8_acceptRanges), ("unicode/utf8.first", laid_unicode_utf8_first)] }
def DayspecBackSaid : Prop := dayspecBackRow.holds Tryd.pinned (OpenSpec.ofChange dayspecBackSpec)

/-- ITS FALSE NEIGHBOUR: 'it returns false'. Refute it at one input. -/
def dayspecBackWrong : ChangeSpec := { name := "dayspecBack", fn := fun _ => fun
  | [d1, d2] => { results := [.lit (.bool false)], args := [d1, d2] }
  | _ => none }
def DayspecBackWrongFalsely : Prop := dayspecBackRow.holds Tryd.pinned (OpenSpec.ofChange dayspecBackWrong)

/-- 'noontidelaw04.StampTells': WHATEVER THE INPUT: true; the input reads as it did. -/
def stampTellsSpec : ChangeSpec := { name := "stampTells", fn := fun _ => fun
  | [d1, d2, d3] => { results := [.lit (.bool true)], args := [d1, d2, d3] }
  | _ => none }
def stampTellsRow : OpenClaim := { program := "ytnchnnbggfeknaadoor", sum := "4321c8dd9d569765a06584d37ce81daa12b7bf93e2adcdb96d8a0b19f60c6a6b", func := "noontide/noontidelaw04.StampTells", spec := "stampTells", inPlace := ["internal/bytealg.IndexByteString", "internal/bytealg.IndexString"], recurses := true, named := ["noontide/stamp.signs", "unicode/utf8.first", "unicode/utf8.acceptRanges", "internal/bytealg.MaxLen"], apart := false, laid := [("unicode/utf8.acceptRanges", laid_unicode_utf8_acceptRanges), ("noontide/stamp.signs", laid_noontide_stamp_signs), ("unicode/utf8.first", laid_unicode_utf8_first)] }
def StampTellsSaid : Prop := stampTellsRow.holds Tryd.pinned (OpenSpec.ofChange stampTellsSpec)

/-- ITS FALSE NEIGHBOUR: 'it returns false'. Refute it at one input. -/
def stampTellsWrong : ChangeSpec := { name := "stampTells", fn := fun _ => fun
  | [d1, d2, d3] => { results := [.lit (.bool false)], args := [d1, d2, d3] }
  | _ => none }
def StampTellsWrongFalsely : Prop := stampTellsRow.holds Tryd.pinned (OpenSpec.ofChange stampTellsWrong)

/-- 'noontidelaw04.StampBack': WHATEVER THE INPUT: true; the input reads as it did. -/
def stampBackSpec : ChangeSpec := { name := "stampBack", fn := fun _ => fun
  | [d1, d2] => { results := [.lit (.bool true)], args := [d1, d2] }
  | _ => none }
def stampBackRow : OpenClaim := { program := "ytnchnnbggfeknaadoor", sum := "4321c8dd9d569765a06584d37ce81daa12b7bf93e2adcdb96d8a0b19f60c6a6b", func := "noontide/noontidelaw04.StampBack", spec := "stampBack", inPlace := ["internal/bytealg.IndexByteString", "internal/bytealg.IndexString"], named := ["noontide/stamp.signs", "unicode/utf8.first", "unicode/utf8.acceptRanges", "internal/bytealg.MaxLen"], apart := false, laid := [("unicode/utf8.acceptRanges", laid_unicode_utf8_acceptRanges), ("noontide/stamp.signs", laid_noontide_stamp_signs), ("unicode/utf8.first", laid_unicode_utf8_first)] }
def StampBackSaid : Prop := stampBackRow.holds Tryd.pinned (OpenSpec.ofChange stampBackSpec)

/-- ITS FALSE NEIGHBOUR: 'it returns false'. Refute it at one input. -/
def stampBackWrong : ChangeSpec := { name := "stampBack", fn := fun _ => fun
  | [d1, d2] => { results := [.lit (.bool false)], args := [d1, d2] }
  | _ => none }
def StampBackWrongFalsely : Prop := stampBackRow.holds Tryd.pinned (OpenSpec.ofChange stampBackWrong)

/-- 'noontidelaw19.ClockTells': WHATEVER THE INPUT: true; the input reads as it did. -/
def clockTellsSpec : ChangeSpec := { name := "clockTells", fn := fun _ => fun
  | [d1, d2] => { results := [.lit (.bool true)], args := [d1, d2] }
  | _ => none }
def clockTellsRow : OpenClaim := { program := "ytnchnnbggfeknaadoor", sum := "4321c8dd9d569765a06584d37ce81daa12b7bf93e2adcdb96d8a0b19f60c6a6b", func := "noontide/noontidelaw19.ClockTells", spec := "clockTells", inPlace := ["internal/bytealg.IndexByteString", "internal/bytealg.IndexString", "internal/bytealg.CountString"], recurses := true, named := ["unicode/utf8.first", "unicode/utf8.acceptRanges", "noontide/amount.parts", "internal/bytealg.MaxLen"], apart := false, laid := [("unicode/utf8.acceptRanges", laid_unicode_utf8_acceptRanges), ("noontide/amount.parts", laid_noontide_amount_parts), ("unicode/utf8.first", laid_unicode_utf8_first)] }
def ClockTellsSaid : Prop := clockTellsRow.holds Tryd.pinned (OpenSpec.ofChange clockTellsSpec)

/-- ITS FALSE NEIGHBOUR: 'it returns false'. Refute it at one input. -/
def clockTellsWrong : ChangeSpec := { name := "clockTells", fn := fun _ => fun
  | [d1, d2] => { results := [.lit (.bool false)], args := [d1, d2] }
  | _ => none }
def ClockTellsWrongFalsely : Prop := clockTellsRow.holds Tryd.pinned (OpenSpec.ofChange clockTellsWrong)

/-- 'noontidelaw19.ClockBack': WHATEVER THE INPUT: true; the input reads as it did. -/
def clockBackSpec : ChangeSpec := { name := "clockBack", fn := fun _ => fun
  | [d] => { results := [.lit (.bool true)], args := [d] }
  | _ => none }
def clockBackRow : OpenClaim := { program := "ytnchnnbggfeknaadoor", sum := "4321c8dd9d569765a06584d37ce81daa12b7bf93e2adcdb96d8a0b19f60c6a6b", func := "noontide/noontidelaw19.ClockBack", spec := "clockBack", inPlace := ["internal/bytealg.IndexByteString", "internal/bytealg.IndexString", "internal/bytealg.CountString"], recurses := true, named := ["unicode/utf8.first", "unicode/utf8.acceptRanges", "noontide/amount.parts", "internal/bytealg.MaxLen"], apart := false, laid := [("unicode/utf8.acceptRanges", laid_unicode_utf8_acceptRanges), ("noontide/amount.parts", laid_noontide_amount_parts), ("unicode/utf8.first", laid_unicode_utf8_first)] }
def ClockBackSaid : Prop := clockBackRow.holds Tryd.pinned (OpenSpec.ofChange clockBackSpec)

/-- ITS FALSE NEIGHBOUR: 'it returns false'. Refute it at one input. -/
def clockBackWrong : ChangeSpec := { name := "clockBack", fn := fun _ => fun
  | [d] => { results := [.lit (.bool false)], args := [d] }
  | _ => none }
def ClockBackWrongFalsely : Prop := clockBackRow.holds Tryd.pinned (OpenSpec.ofChange clockBackWrong)

/-- 'noontidelaw04.StampOrder': WHATEVER THE INPUT: true; the input reads as it did. -/
def stampOrderSpec : ChangeSpec := { name := "stampOrder", fn := fun _ => fun
  | [d1, d2] => { results := [.lit (.bool true)], args := [d1, d2] }
  | _ => none }
def stampOrderRow : OpenClaim := { program := "ytnchnnbggfeknaadoor", sum := "4321c8dd9d569765a06584d37ce81daa12b7bf93e2adcdb96d8a0b19f60c6a6b", func := "noontide/noontidelaw04.StampOrder", spec := "stampOrder", inPlace := ["internal/bytealg.IndexByteString", "internal/bytealg.IndexString"], named := ["noontide/stamp.signs", "unicode/utf8.first", "unicode/utf8.acceptRanges", "internal/bytealg.MaxLen"], apart := false, laid := [("unicode/utf8.acceptRanges", laid_unicode_utf8_acceptRanges), ("noontide/stamp.signs", laid_noontide_stamp_signs), ("unicode/utf8.first", laid_unicode_utf8_first)] }
def StampOrderSaid : Prop := stampOrderRow.holds Tryd.pinned (OpenSpec.ofChange stampOrderSpec)

/-- ITS FALSE NEIGHBOUR: 'it returns false'. Refute it at one input. -/
def stampOrderWrong : ChangeSpec := { name := "stampOrder", fn := fun _ => fun
  | [d1, d2] => { results := [.lit (.bool false)], args := [d1, d2] }
  | _ => none }
def StampOrderWrongFalsely : Prop := stampOrderRow.holds Tryd.pinned (OpenSpec.ofChange stampOrderWrong)

/- THE SECOND FORM. 'bulk': how many values and letters a reading holds, each counted each time it is reached (what is shared counts as often as it is met; a slice's spare places count too). A statement '..UptoSaid' is the law's where the arguments, and the package variables that the reading takes, are together of bulk at most 1048576: NARROWER than '..Said'. Prove '..Said' where nothing that the law and all that it calls make is longer than what came in: it says more and counts as full. Else prove '..UptoSaid'. A law counts once. -/
mutual
def uptoBulk {H : Type} : DataW H → Nat
  | .lit (.string bytes) => bytes.length + 1
  | .lit _ => 1
  | .nil => 1
  | .ptr d => uptoBulk d + 1
  | .slice elems spare => uptoBulkAll elems + uptoBulkAll spare + 1
  | .agg parts => uptoBulkAll parts + 1
  | .iface _ d => uptoBulk d + 1
  | .map entries => uptoBulkEntries entries + 1
  | .held _ => 1
def uptoBulkAll {H : Type} : List (DataW H) → Nat
  | [] => 0
  | d :: r => uptoBulk d + uptoBulkAll r
def uptoBulkEntries {H : Type} : List (Lit × DataW H) → Nat
  | [] => 0
  | x :: r => uptoBulkEntry x + uptoBulkEntries r
def uptoBulkEntry {H : Type} : Lit × DataW H → Nat
  | (.string bytes, d) => bytes.length + uptoBulk d + 1
  | (_, d) => uptoBulk d + 1
 end
def uptoSmall : (H : Type) → List (DataW H) → Bool := fun _ ds => decide (uptoBulkAll ds ≤ 1048576)
def OpenSpec.upto (s : _root_.Go.ChangeSpec) : _root_.Go.OpenSpec := { _root_.Go.OpenSpec.ofChange s with cond := some uptoSmall }

/-- 'noontidelaw20.FormatTells', WHERE WHAT IT READS IS OF BULK AT MOST 1048576: true; the input reads as it did. -/
def formatTellsUptoRow : OpenClaim := { program := "ytnchnnbggfeknaadoor", sum := "4321c8dd9d569765a06584d37ce81daa12b7bf93e2adcdb96d8a0b19f60c6a6b", func := "noontide/noontidelaw20.FormatTells", spec := "formatTells", inPlace := ["internal/bytealg.IndexByteString", "internal/bytealg.IndexString"], recurses := true, named := ["internal/bytealg.MaxLen", "unicode/utf8.first", "unicode/utf8.acceptRanges"], apart := false, laid := [("unicode/utf8.acceptRanges", laid_unicode_utf8_acceptRanges), ("unicode/utf8.first", laid_unicode_utf8_first)], narrowed := true }
def FormatTellsUptoSaid : Prop := formatTellsUptoRow.holds Tryd.pinned (OpenSpec.upto formatTellsSpec)

/-- 'noontidelaw20.FormatHangs', WHERE WHAT IT READS IS OF BULK AT MOST 1048576: true; the input reads as it did. -/
def formatHangsUptoRow : OpenClaim := { program := "ytnchnnbggfeknaadoor", sum := "4321c8dd9d569765a06584d37ce81daa12b7bf93e2adcdb96d8a0b19f60c6a6b", func := "noontide/noontidelaw20.FormatHangs", spec := "formatHangs", inPlace := ["internal/bytealg.IndexByteString", "internal/bytealg.IndexString"], named := ["internal/bytealg.MaxLen", "unicode/utf8.first", "unicode/utf8.acceptRanges"], apart := false, laid := [("unicode/utf8.acceptRanges", laid_unicode_utf8_acceptRanges), ("unicode/utf8.first", laid_unicode_utf8_first)], narrowed := true }
def FormatHangsUptoSaid : Prop := formatHangsUptoRow.holds Tryd.pinned (OpenSpec.upto formatHangsSpec)

/-- 'noontidelaw17.YearTells', WHERE WHAT IT READS IS OF BULK AT MOST 1048576: true; the input reads as it did. -/
def yearTellsUptoRow : OpenClaim := { program := "ytnchnnbggfeknaadoor", sum := "4321c8dd9d569765a06584d37ce81daa12b7bf93e2adcdb96d8a0b19f60c6a6b", func := "noontide/noontidelaw17.YearTells", spec := "yearTells", inPlace := ["internal/bytealg.IndexByteString", "internal/bytealg.IndexString"], recurses := true, named := ["unicode/utf8.first", "unicode/utf8.acceptRanges", "internal/bytealg.MaxLen"], apart := false, laid := [("unicode/utf8.acceptRanges", laid_unicode_utf8_acceptRanges), ("unicode/utf8.first", laid_unicode_utf8_first)], narrowed := true }
def YearTellsUptoSaid : Prop := yearTellsUptoRow.holds Tryd.pinned (OpenSpec.upto yearTellsSpec)

/-- 'noontidelaw17.YearBack', WHERE WHAT IT READS IS OF BULK AT MOST 1048576: true; the input reads as it did. -/
def yearBackUptoRow : OpenClaim := { program := "ytnchnnbggfeknaadoor", sum := "4321c8dd9d569765a06584d37ce81daa12b7bf93e2adcdb96d8a0b19f60c6a6b", func := "noontide/noontidelaw17.YearBack", spec := "yearBack", inPlace := ["internal/bytealg.IndexByteString", "internal/bytealg.IndexString"], named := ["unicode/utf8.first", "unicode/utf8.acceptRanges", "internal/bytealg.MaxLen"], apart := false, laid := [("unicode/utf8.acceptRanges", laid_unicode_utf8_acceptRanges), ("unicode/utf8.first", laid_unicode_utf8_first)], narrowed := true }
def YearBackUptoSaid : Prop := yearBackUptoRow.holds Tryd.pinned (OpenSpec.upto yearBackSpec)

/-- 'noontidelaw18.DayspecTells', WHERE WHAT IT READS IS OF BULK AT MOST 1048576: true; the input reads as it did. -/
def dayspecTellsUptoRow : OpenClaim := { program := "ytnchnnbggfeknaadoor", sum := "4321c8dd9d569765a06584d37ce81daa12b7bf93e2adcdb96d8a0b19f60c6a6b", func := "noontide/noontidelaw18.DayspecTells", spec := "dayspecTells", inPlace := ["internal/bytealg.IndexByteString", "internal/bytealg.IndexString"], unfollowed := true, recurses := true, named := ["noontide/words.weekdays", "unicode/utf8.first", "unicode/utf8.acceptRanges", "internal/bytealg.MaxLen"], apart := false, laid := [("noontide/words.weekdays", laid_noontide_words_weekdays), ("unicode/utf8.acceptRanges", laid_unicode_utf8_acceptRanges), ("unicode/utf8.first", laid_unicode_utf8_first)], narrowed := true }
def DayspecTellsUptoSaid : Prop := dayspecTellsUptoRow.holds Tryd.pinned (OpenSpec.upto dayspecTellsSpec)

/-- 'noontidelaw18.DayspecBack', WHERE WHAT IT READS IS OF BULK AT MOST 1048576: true; the input reads as it did. -/
def dayspecBackUptoRow : OpenClaim := { program := "ytnchnnbggfeknaadoor", sum := "4321c8dd9d569765a06584d37ce81daa12b7bf93e2adcdb96d8a0b19f60c6a6b", func := "noontide/noontidelaw18.DayspecBack", spec := "dayspecBack", inPlace := ["internal/bytealg.IndexByteString", "internal/bytealg.IndexString"], unfollowed := true, recurses := true, named := ["noontide/words.weekdays", "unicode/utf8.first", "unicode/utf8.acceptRanges", "internal/bytealg.MaxLen"], apart := false, laid := [("noontide/words.weekdays", laid_noontide_words_weekdays), ("unicode/utf8.acceptRanges", laid_unicode_utf8_acceptRanges), ("unicode/utf8.first", laid_unicode_utf8_first)], narrowed := true }
def DayspecBackUptoSaid : Prop := dayspecBackUptoRow.holds Tryd.pinned (OpenSpec.upto dayspecBackSpec)

/-- 'noontidelaw04.StampTells', WHERE WHAT IT READS IS OF BULK AT MOST 1048576: true; the input reads as it did. -/
def stampTellsUptoRow : OpenClaim := { program := "ytnchnnbggfeknaadoor", sum := "4321c8dd9d569765a06584d37ce81daa12b7bf93e2adcdb96d8a0b19f60c6a6b", func := "noontide/noontidelaw04.StampTells", spec := "stampTells", inPlace := ["internal/bytealg.IndexByteString", "internal/bytealg.IndexString"], recurses := true, named := ["noontide/stamp.signs", "unicode/utf8.first", "unicode/utf8.acceptRanges", "internal/bytealg.MaxLen"], apart := false, laid := [("unicode/utf8.acceptRanges", laid_unicode_utf8_acceptRanges), ("noontide/stamp.signs", laid_noontide_stamp_signs), ("unicode/utf8.first", laid_unicode_utf8_first)], narrowed := true }
def StampTellsUptoSaid : Prop := stampTellsUptoRow.holds Tryd.pinned (OpenSpec.upto stampTellsSpec)

/-- 'noontidelaw04.StampBack', WHERE WHAT IT READS IS OF BULK AT MOST 1048576: true; the input reads as it did. -/
def stampBackUptoRow : OpenClaim := { program := "ytnchnnbggfeknaadoor", sum := "4321c8dd9d569765a06584d37ce81daa12b7bf93e2adcdb96d8a0b19f60c6a6b", func := "noontide/noontidelaw04.StampBack", spec := "stampBack", inPlace := ["internal/bytealg.IndexByteString", "internal/bytealg.IndexString"], named := ["noontide/stamp.signs", "unicode/utf8.first", "unicode/utf8.acceptRanges", "internal/bytealg.MaxLen"], apart := false, laid := [("unicode/utf8.acceptRanges", laid_unicode_utf8_acceptRanges), ("noontide/stamp.signs", laid_noontide_stamp_signs), ("unicode/utf8.first", laid_unicode_utf8_first)], narrowed := true }
def StampBackUptoSaid : Prop := stampBackUptoRow.holds Tryd.pinned (OpenSpec.upto stampBackSpec)

/-- 'noontidelaw19.ClockTells', WHERE WHAT IT READS IS OF BULK AT MOST 1048576: true; the input reads as it did. -/
def clockTellsUptoRow : OpenClaim := { program := "ytnchnnbggfeknaadoor", sum := "4321c8dd9d569765a06584d37ce81daa12b7bf93e2adcdb96d8a0b19f60c6a6b", func := "noontide/noontidelaw19.ClockTells", spec := "clockTells", inPlace := ["internal/bytealg.IndexByteString", "internal/bytealg.IndexString", "internal/bytealg.CountString"], recurses := true, named := ["unicode/utf8.first", "unicode/utf8.acceptRanges", "noontide/amount.parts", "internal/bytealg.MaxLen"], apart := false, laid := [("unicode/utf8.acceptRanges", laid_unicode_utf8_acceptRanges), ("noontide/amount.parts", laid_noontide_amount_parts), ("unicode/utf8.first", laid_unicode_utf8_first)], narrowed := true }
def ClockTellsUptoSaid : Prop := clockTellsUptoRow.holds Tryd.pinned (OpenSpec.upto clockTellsSpec)

/-- 'noontidelaw19.ClockBack', WHERE WHAT IT READS IS OF BULK AT MOST 1048576: true; the input reads as it did. -/
def clockBackUptoRow : OpenClaim := { program := "ytnchnnbggfeknaadoor", sum := "4321c8dd9d569765a06584d37ce81daa12b7bf93e2adcdb96d8a0b19f60c6a6b", func := "noontide/noontidelaw19.ClockBack", spec := "clockBack", inPlace := ["internal/bytealg.IndexByteString", "internal/bytealg.IndexString", "internal/bytealg.CountString"], recurses := true, named := ["unicode/utf8.first", "unicode/utf8.acceptRanges", "noontide/amount.parts", "internal/bytealg.MaxLen"], apart := false, laid := [("unicode/utf8.acceptRanges", laid_unicode_utf8_acceptRanges), ("noontide/amount.parts", laid_noontide_amount_parts), ("unicode/utf8.first", laid_unicode_utf8_first)], narrowed := true }
def ClockBackUptoSaid : Prop := clockBackUptoRow.holds Tryd.pinned (OpenSpec.upto clockBackSpec)

/-- 'noontidelaw04.StampOrder', WHERE WHAT IT READS IS OF BULK AT MOST 1048576: true; the input reads as it did. -/
def stampOrderUptoRow : OpenClaim := { program := "ytnchnnbggfeknaadoor", sum := "4321c8dd9d569765a06584d37ce81daa12b7bf93e2adcdb96d8a0b19f60c6a6b", func := "noontide/noontidelaw04.StampOrder", spec := "stampOrder", inPlace := ["internal/bytealg.IndexByteString", "internal/bytealg.IndexString"], named := ["noontide/stamp.signs", "unicode/utf8.first", "unicode/utf8.acceptRanges", "internal/bytealg.MaxLen"], apart := false, laid := [("unicode/utf8.acceptRanges", laid_unicode_utf8_acceptRanges), ("noontide/stamp.signs", laid_noontide_stamp_signs), ("unicode/utf8.first", laid_unicode_utf8_first)], narrowed := true }
def StampOrderUptoSaid : Prop := stampOrderUptoRow.holds Tryd.pinned (OpenSpec.upto stampOrderSpec)

end Rows
end Go.Proofs.YtnchnnbggfeknaaDoor
