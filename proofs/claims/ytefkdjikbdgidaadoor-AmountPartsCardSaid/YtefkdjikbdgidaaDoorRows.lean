/-
  NARROWER THAN 'FOR EVERY INPUT', by the rows' own cells (each row's printed sentence says how): WordsTell: laid · WordsMore: laid · AmountTells: laid · AmountBack: laid · AmountParts: laid · NumTells: laid · NumBack: laid.
  DERIVED. THE GIVEN ROWS OF THIS SEAT. 7 by the template 'for every input the law returns true; each argument reads behind the call as it read before'; 0 by the template 'total and deterministic' (their statements: YtefkdjikbdgidaaDoorTotals.lean).
  GIVEN WITH THE SEED: the statements are not yours to turn. If you find one false, say at which input.
  Laid BY PROGRAM, IN A SANDBOX (cutbox-rows.mjs): the forced cells as the released guide's own fill.sh prints them over the translation 9c67edf5e2c12bf7… (all of the seat's roots in one cut). By AI agents, Wed Nov 11 2026. No macro, syntax, notation, axiom, sorry.
-/
import Derived.Test.YtefkdjikbdgidaaDoorChecked
import GoSem.PinnedTables
import GoSem.Claim
import GoSem.ClaimJoined
import GoSem.ClaimMapViews
import Derived.JoinedTies
import Derived.KernelRfl
namespace Go.Proofs.YtefkdjikbdgidaaDoor
/- THE CELL 'sum', in the pinned program and in every row, IS THE sha256 OF THE DUMP (.gsa) THAT YtefkdjikbdgidaaDoorProg.lean LOADS. Nothing in Lean hashes anything: it is a label: what it is worth is what the hold of that sum in a sandbox is worth. -/
noncomputable def Tryd.pinned : Pinned := { name := "ytefkdjikbdgidaadoor", sum := "9c67edf5e2c12bf77854dc68472cd65cce1efb41250478db70de0b8851d803c9", checked := Tryd.checked }
namespace Rows
def none {H : Type} : Left H := { results := [], args := [] }

/- WHAT THE LISTED PACKAGE-LEVEL VARIABLES READ AS WHEN THE CALL BEGINS. Each datum BY PROGRAM (the guide's laid-datum.mjs) off the statement by which the dump's own 'gosem.cut.vars' lays the variable. In a bare row this is a premise. The card (YtefkdjikbdgidaaDoorCards.lean) ties it to the program's text. -/
def laid_noontide_words_months {H : Type} : DataW H := .agg [.lit (.string [74, 97, 110, 117, 97, 114, 121]), .lit (.string [70, 101, 98, 114, 117, 97, 114, 121]), .lit (.string [77, 97, 114, 99, 104]), .lit (.string [65, 112, 114, 105, 108]), .lit (.string [77, 97, 121]), .lit (.string [74, 117, 110, 101]), .lit (.string [74, 117, 108, 121]), .lit (.string [65, 117, 103, 117, 115, 116]), .lit (.string [83, 101, 112, 116, 101, 109, 98, 101, 114]), .lit (.string [79, 99, 116, 111, 98, 101, 114]), .lit (.string [78, 111, 118, 101, 109, 98, 101, 114]), .lit (.string [68, 101, 99, 101, 109, 98, 101, 114])]
def laid_noontide_words_weekdays {H : Type} : DataW H := .agg [.lit (.string [83, 117, 110, 100, 97, 121]), .lit (.string [77, 111, 110, 100, 97, 121]), .lit (.string [84, 117, 101, 115, 100, 97, 121]), .lit (.string [87, 101, 100, 110, 101, 115, 100, 97, 121]), .lit (.string [84, 104, 117, 114, 115, 100, 97, 121]), .lit (.string [70, 114, 105, 100, 97, 121]), .lit (.string [83, 97, 116, 117, 114, 100, 97, 121])]
def laid_unicode_utf8_acceptRanges {H : Type} : DataW H := .agg [.agg [.lit (.int .u8 128), .lit (.int .u8 191)], .agg [.lit (.int .u8 160), .lit (.int .u8 191)], .agg [.lit (.int .u8 128), .lit (.int .u8 159)], .agg [.lit (.int .u8 144), .lit (.int .u8 191)], .agg [.lit (.int .u8 128), .lit (.int .u8 143)], .agg [.lit (.int .u8 0), .lit (.int .u8 0)], .agg [.lit (.int .u8 0), .lit (.int .u8 0)], .agg [.lit (.int .u8 0), .lit (.int .u8 0)], .agg [.lit (.int .u8 0), .lit (.int .u8 0)], .agg [.lit (.int .u8 0), .lit (.int .u8 0)], .agg [.lit (.int .u8 0), .lit (.int .u8 0)], .agg [.lit (.int .u8 0), .lit (.int .u8 0)], .agg [.lit (.int .u8 0), .lit (.int .u8 0)], .agg [.lit (.int .u8 0), .lit (.int .u8 0)], .agg [.lit (.int .u8 0), .lit (.int .u8 0)], .agg [.lit (.int .u8 0), .lit (.int .u8 0)]]
def laid_noontide_amount_parts {H : Type} : DataW H := .agg [.agg [.lit (.int .i64 1), .lit (.int .i64 3), .lit (.int .i64 3600)], .agg [.lit (.int .i64 2), .lit (.int .i64 2), .lit (.int .i64 60)], .agg [.lit (.int .i64 2), .lit (.int .i64 2), .lit (.int .i64 1)]]
/-- One of Go's own tables, pinned by name: the form's constant. -/
def laid_unicode_utf8_first : DataW Unit := Go.Pinned.utf8First

/-- 'noontidelaw15.WordsTell': WHATEVER THE INPUT: true; the input reads as it did. -/
def wordsTellSpec : ChangeSpec := { name := "wordsTell", fn := fun _ => fun
  | [d1, d2, d3, d4] => { results := [.lit (.bool true)], args := [d1, d2, d3, d4] }
  | _ => none }
def wordsTellRow : OpenClaim := { program := "ytefkdjikbdgidaadoor", sum := "9c67edf5e2c12bf77854dc68472cd65cce1efb41250478db70de0b8851d803c9", func := "noontide/noontidelaw15.WordsTell", spec := "wordsTell", named := ["noontide/words.months", "noontide/words.weekdays"], apart := false, laid := [("noontide/words.months", laid_noontide_words_months), ("noontide/words.weekdays", laid_noontide_words_weekdays)] }
def WordsTellSaid : Prop := wordsTellRow.holds Tryd.pinned (OpenSpec.ofChange wordsTellSpec)

/-- ITS FALSE NEIGHBOUR: 'it returns false'. Refute it at one input. -/
def wordsTellWrong : ChangeSpec := { name := "wordsTell", fn := fun _ => fun
  | [d1, d2, d3, d4] => { results := [.lit (.bool false)], args := [d1, d2, d3, d4] }
  | _ => none }
def WordsTellWrongFalsely : Prop := wordsTellRow.holds Tryd.pinned (OpenSpec.ofChange wordsTellWrong)

/-- 'noontidelaw15.WordsMore': WHATEVER THE INPUT: true; the input reads as it did. -/
def wordsMoreSpec : ChangeSpec := { name := "wordsMore", fn := fun _ => fun
  | [d1, d2, d3] => { results := [.lit (.bool true)], args := [d1, d2, d3] }
  | _ => none }
def wordsMoreRow : OpenClaim := { program := "ytefkdjikbdgidaadoor", sum := "9c67edf5e2c12bf77854dc68472cd65cce1efb41250478db70de0b8851d803c9", func := "noontide/noontidelaw15.WordsMore", spec := "wordsMore", named := ["noontide/words.months", "noontide/words.weekdays"], apart := false, laid := [("noontide/words.months", laid_noontide_words_months), ("noontide/words.weekdays", laid_noontide_words_weekdays)] }
def WordsMoreSaid : Prop := wordsMoreRow.holds Tryd.pinned (OpenSpec.ofChange wordsMoreSpec)

/-- ITS FALSE NEIGHBOUR: 'it returns false'. Refute it at one input. -/
def wordsMoreWrong : ChangeSpec := { name := "wordsMore", fn := fun _ => fun
  | [d1, d2, d3] => { results := [.lit (.bool false)], args := [d1, d2, d3] }
  | _ => none }
def WordsMoreWrongFalsely : Prop := wordsMoreRow.holds Tryd.pinned (OpenSpec.ofChange wordsMoreWrong)

/-- 'noontidelaw16.AmountTells': WHATEVER THE INPUT: true; the input reads as it did. -/
def amountTellsSpec : ChangeSpec := { name := "amountTells", fn := fun _ => fun
  | [d1, d2] => { results := [.lit (.bool true)], args := [d1, d2] }
  | _ => none }
def amountTellsRow : OpenClaim := { program := "ytefkdjikbdgidaadoor", sum := "9c67edf5e2c12bf77854dc68472cd65cce1efb41250478db70de0b8851d803c9", func := "noontide/noontidelaw16.AmountTells", spec := "amountTells", inPlace := ["internal/bytealg.CountString", "internal/bytealg.IndexByteString", "internal/bytealg.IndexString"], recurses := true, named := ["noontide/amount.parts", "unicode/utf8.first", "unicode/utf8.acceptRanges", "internal/bytealg.MaxLen"], apart := false, laid := [("unicode/utf8.acceptRanges", laid_unicode_utf8_acceptRanges), ("noontide/amount.parts", laid_noontide_amount_parts), ("unicode/utf8.first", laid_unicode_utf8_first)] }
def AmountTellsSaid : Prop := amountTellsRow.holds Tryd.pinned (OpenSpec.ofChange amountTellsSpec)

/-- ITS FALSE NEIGHBOUR: 'it returns false'. Refute it at one input. -/
def amountTellsWrong : ChangeSpec := { name := "amountTells", fn := fun _ => fun
  | [d1, d2] => { results := [.lit (.bool false)], args := [d1, d2] }
  | _ => none }
def AmountTellsWrongFalsely : Prop := amountTellsRow.holds Tryd.pinned (OpenSpec.ofChange amountTellsWrong)

/-- 'noontidelaw16.AmountBack': WHATEVER THE INPUT: true; the input reads as it did. -/
def amountBackSpec : ChangeSpec := { name := "amountBack", fn := fun _ => fun
  | [d] => { results := [.lit (.bool true)], args := [d] }
  | _ => none }
def amountBackRow : OpenClaim := { program := "ytefkdjikbdgidaadoor", sum := "9c67edf5e2c12bf77854dc68472cd65cce1efb41250478db70de0b8851d803c9", func := "noontide/noontidelaw16.AmountBack", spec := "amountBack", inPlace := ["internal/bytealg.CountString", "internal/bytealg.IndexByteString", "internal/bytealg.IndexString"], recurses := true, named := ["noontide/amount.parts", "unicode/utf8.first", "unicode/utf8.acceptRanges", "internal/bytealg.MaxLen"], apart := false, laid := [("unicode/utf8.acceptRanges", laid_unicode_utf8_acceptRanges), ("noontide/amount.parts", laid_noontide_amount_parts), ("unicode/utf8.first", laid_unicode_utf8_first)] }
def AmountBackSaid : Prop := amountBackRow.holds Tryd.pinned (OpenSpec.ofChange amountBackSpec)

/-- ITS FALSE NEIGHBOUR: 'it returns false'. Refute it at one input. -/
def amountBackWrong : ChangeSpec := { name := "amountBack", fn := fun _ => fun
  | [d] => { results := [.lit (.bool false)], args := [d] }
  | _ => none }
def AmountBackWrongFalsely : Prop := amountBackRow.holds Tryd.pinned (OpenSpec.ofChange amountBackWrong)

/-- 'noontidelaw16.AmountParts': WHATEVER THE INPUT: true; the input reads as it did. -/
def amountPartsSpec : ChangeSpec := { name := "amountParts", fn := fun _ => fun
  | [d1, d2, d3, d4] => { results := [.lit (.bool true)], args := [d1, d2, d3, d4] }
  | _ => none }
def amountPartsRow : OpenClaim := { program := "ytefkdjikbdgidaadoor", sum := "9c67edf5e2c12bf77854dc68472cd65cce1efb41250478db70de0b8851d803c9", func := "noontide/noontidelaw16.AmountParts", spec := "amountParts", inPlace := ["internal/bytealg.CountString", "internal/bytealg.IndexByteString", "internal/bytealg.IndexString"], recurses := true, named := ["noontide/amount.parts", "unicode/utf8.first", "unicode/utf8.acceptRanges", "internal/bytealg.MaxLen"], apart := false, laid := [("unicode/utf8.acceptRanges", laid_unicode_utf8_acceptRanges), ("noontide/amount.parts", laid_noontide_amount_parts), ("unicode/utf8.first", laid_unicode_utf8_first)] }
def AmountPartsSaid : Prop := amountPartsRow.holds Tryd.pinned (OpenSpec.ofChange amountPartsSpec)

/-- ITS FALSE NEIGHBOUR: 'it returns false'. Refute it at one input. -/
def amountPartsWrong : ChangeSpec := { name := "amountParts", fn := fun _ => fun
  | [d1, d2, d3, d4] => { results := [.lit (.bool false)], args := [d1, d2, d3, d4] }
  | _ => none }
def AmountPartsWrongFalsely : Prop := amountPartsRow.holds Tryd.pinned (OpenSpec.ofChange amountPartsWrong)

/-- 'noontidelaw01.NumTells': WHATEVER THE INPUT: true; the input reads as it did. -/
def numTellsSpec : ChangeSpec := { name := "numTells", fn := fun _ => fun
  | [d1, d2, d3, d4, d5] => { results := [.lit (.bool true)], args := [d1, d2, d3, d4, d5] }
  | _ => none }
def numTellsRow : OpenClaim := { program := "ytefkdjikbdgidaadoor", sum := "9c67edf5e2c12bf77854dc68472cd65cce1efb41250478db70de0b8851d803c9", func := "noontide/noontidelaw01.NumTells", spec := "numTells", inPlace := ["internal/bytealg.IndexByteString", "internal/bytealg.IndexString"], recurses := true, named := ["unicode/utf8.first", "unicode/utf8.acceptRanges", "internal/bytealg.MaxLen"], apart := false, laid := [("unicode/utf8.acceptRanges", laid_unicode_utf8_acceptRanges), ("unicode/utf8.first", laid_unicode_utf8_first)] }
def NumTellsSaid : Prop := numTellsRow.holds Tryd.pinned (OpenSpec.ofChange numTellsSpec)

/-- ITS FALSE NEIGHBOUR: 'it returns false'. Refute it at one input. -/
def numTellsWrong : ChangeSpec := { name := "numTells", fn := fun _ => fun
  | [d1, d2, d3, d4, d5] => { results := [.lit (.bool false)], args := [d1, d2, d3, d4, d5] }
  | _ => none }
def NumTellsWrongFalsely : Prop := numTellsRow.holds Tryd.pinned (OpenSpec.ofChange numTellsWrong)

/-- 'noontidelaw01.NumBack': WHATEVER THE INPUT: true; the input reads as it did. -/
def numBackSpec : ChangeSpec := { name := "numBack", fn := fun _ => fun
  | [d1, d2] => { results := [.lit (.bool true)], args := [d1, d2] }
  | _ => none }
def numBackRow : OpenClaim := { program := "ytefkdjikbdgidaadoor", sum := "9c67edf5e2c12bf77854dc68472cd65cce1efb41250478db70de0b8851d803c9", func := "noontide/noontidelaw01.NumBack", spec := "numBack", inPlace := ["internal/bytealg.IndexByteString", "internal/bytealg.IndexString"], named := ["unicode/utf8.first", "unicode/utf8.acceptRanges", "internal/bytealg.MaxLen"], apart := false, laid := [("unicode/utf8.acceptRanges", laid_unicode_utf8_acceptRanges), ("unicode/utf8.first", laid_unicode_utf8_first)] }
def NumBackSaid : Prop := numBackRow.holds Tryd.pinned (OpenSpec.ofChange numBackSpec)

/-- ITS FALSE NEIGHBOUR: 'it returns false'. Refute it at one input. -/
def numBackWrong : ChangeSpec := { name := "numBack", fn := fun _ => fun
  | [d1, d2] => { results := [.lit (.bool false)], args := [d1, d2] }
  | _ => none }
def NumBackWrongFalsely : Prop := numBackRow.holds Tryd.pinned (OpenSpec.ofChange numBackWrong)

/- THE SECOND FORM. 'bulk': how many values and letters a reading holds, each counted each time it is reached (what is shared counts as often as it is met; a slice's spare places count too). A statement '..UptoSaid' is the law's where the arguments, and the package variables that the reading takes, are together of bulk at most 1048576: NARROWER than '..Said'. Prove '..Said' where nothing that the law and all that it calls make is longer than what came in: it says more and counts as full. Else prove '..UptoSaid'. A law counts once. -/
mutual
def uptoBulk {H : Type} : DataW H → Nat
  | .lit (.string bytes) => bytes.length + 1
  | .lit _ => 1
  | .nil => 1
  | .ptr d => uptoBulk d + 1
  | .slice elems spare => uptoBulkAll elems + uptoBulkAll spare + 1
  | .agg parts => uptoBulkAll parts + 1
  | .iface _ d => uptoBulk d + 1
  | .map entries => uptoBulkEntries entries + 1
  | .held _ => 1
def uptoBulkAll {H : Type} : List (DataW H) → Nat
  | [] => 0
  | d :: r => uptoBulk d + uptoBulkAll r
def uptoBulkEntries {H : Type} : List (Lit × DataW H) → Nat
  | [] => 0
  | x :: r => uptoBulkEntry x + uptoBulkEntries r
def uptoBulkEntry {H : Type} : Lit × DataW H → Nat
  | (.string bytes, d) => bytes.length + uptoBulk d + 1
  | (_, d) => uptoBulk d + 1
 end
def uptoSmall : (H : Type) → List (DataW H) → Bool := fun _ ds => decide (uptoBulkAll ds ≤ 1048576)
def OpenSpec.upto (s : _root_.Go.ChangeSpec) : _root_.Go.OpenSpec := { _root_.Go.OpenSpec.ofChange s with cond := some uptoSmall }

/-- 'noontidelaw15.WordsTell', WHERE WHAT IT READS IS OF BULK AT MOST 1048576: true; the input reads as it did. -/
def wordsTellUptoRow : OpenClaim := { program := "ytefkdjikbdgidaadoor", sum := "9c67edf5e2c12bf77854dc68472cd65cce1efb41250478db70de0b8851d803c9", func := "noontide/noontidelaw15.WordsTell", spec := "wordsTell", named := ["noontide/words.months", "noontide/words.weekdays"], apart := false, laid := [("noontide/words.months", laid_noontide_words_months), ("noontide/words.weekdays", laid_noontide_words_weekdays)], narrowed := true }
def WordsTellUptoSaid : Prop := wordsTellUptoRow.holds Tryd.pinned (OpenSpec.upto wordsTellSpec)

/-- 'noontidelaw15.WordsMore', WHERE WHAT IT READS IS OF BULK AT MOST 1048576: true; the input reads as it did. -/
def wordsMoreUptoRow : OpenClaim := { program := "ytefkdjikbdgidaadoor", sum := "9c67edf5e2c12bf77854dc68472cd65cce1efb41250478db70de0b8851d803c9", func := "noontide/noontidelaw15.WordsMore", spec := "wordsMore", named := ["noontide/words.months", "noontide/words.weekdays"], apart := false, laid := [("noontide/words.months", laid_noontide_words_months), ("noontide/words.weekdays", laid_noontide_words_weekdays)], narrowed := true }
def WordsMoreUptoSaid : Prop := wordsMoreUptoRow.holds Tryd.pinned (OpenSpec.upto wordsMoreSpec)

/-- 'noontidelaw16.AmountTells', WHERE WHAT IT READS IS OF BULK AT MOST 1048576: true; the input reads as it did. -/
def amountTellsUptoRow : OpenClaim := { program := "ytefkdjikbdgidaadoor", sum := "9c67edf5e2c12bf77854dc68472cd65cce1efb41250478db70de0b8851d803c9", func := "noontide/noontidelaw16.AmountTells", spec := "amountTells", inPlace := ["internal/bytealg.CountString", "internal/bytealg.IndexByteString", "internal/bytealg.IndexString"], recurses := true, named := ["noontide/amount.parts", "unicode/utf8.first", "unicode/utf8.acceptRanges", "internal/bytealg.MaxLen"], apart := false, laid := [("unicode/utf8.acceptRanges", laid_unicode_utf8_acceptRanges), ("noontide/amount.parts", laid_noontide_amount_parts), ("unicode/utf8.first", laid_unicode_utf8_first)], narrowed := true }
def AmountTellsUptoSaid : Prop := amountTellsUptoRow.holds Tryd.pinned (OpenSpec.upto amountTellsSpec)

/-- 'noontidelaw16.AmountBack', WHERE WHAT IT READS IS OF BULK AT MOST 1048576: true; the input reads as it did. -/
def amountBackUptoRow : OpenClaim := { program := "ytefkdjikbdgidaadoor", sum := "9c67edf5e2c12bf77854dc68472cd65cce1efb41250478db70de0b8851d803c9", func := "noontide/noontidelaw16.AmountBack", spec := "amountBack", inPlace := ["internal/bytealg.CountString", "internal/bytealg.IndexByteString", "internal/bytealg.IndexString"], recurses := true, named := ["noontide/amount.parts", "unicode/utf8.first", "unicode/utf8.acceptRanges", "internal/bytealg.MaxLen"], apart := false, laid := [("unicode/utf8.acceptRanges", laid_unicode_utf8_acceptRanges), ("noontide/amount.parts", laid_noontide_amount_parts), ("unicode/utf8.first", laid_unicode_utf8_first)], narrowed := true }
def AmountBackUptoSaid : Prop := amountBackUptoRow.holds Tryd.pinned (OpenSpec.upto amountBackSpec)

/-- 'noontidelaw16.AmountParts', WHERE WHAT IT READS IS OF BULK AT MOST 1048576: true; the input reads as it did. -/
def amountPartsUptoRow : OpenClaim := { program := "ytefkdjikbdgidaadoor", sum := "9c67edf5e2c12bf77854dc68472cd65cce1efb41250478db70de0b8851d803c9", func := "noontide/noontidelaw16.AmountParts", spec := "amountParts", inPlace := ["internal/bytealg.CountString", "internal/bytealg.IndexByteString", "internal/bytealg.IndexString"], recurses := true, named := ["noontide/amount.parts", "unicode/utf8.first", "unicode/utf8.acceptRanges", "internal/bytealg.MaxLen"], apart := false, laid := [("unicode/utf8.acceptRanges", laid_unicode_utf8_acceptRanges), ("noontide/amount.parts", laid_noontide_amount_parts), ("unicode/utf8.first", laid_unicode_utf8_first)], narrowed := true }
def AmountPartsUptoSaid : Prop := amountPartsUptoRow.holds Tryd.pinned (OpenSpec.upto amountPartsSpec)

/-- 'noontidelaw01.NumTells', WHERE WHAT IT READS IS OF BULK AT MOST 1048576: true; the input reads as it did. -/
def numTellsUptoRow : OpenClaim := { program := "ytefkdjikbdgidaadoor", sum := "9c67edf5e2c12bf77854dc68472cd65cce1efb41250478db70de0b8851d803c9", func := "noontide/noontidelaw01.NumTells", spec := "numTells", inPlace := ["internal/bytealg.IndexByteString", "internal/bytealg.IndexString"], recurses := true, named := ["unicode/utf8.first", "unicode/utf8.acceptRanges", "internal/bytealg.MaxLen"], apart := false, laid := [("unicode/utf8.acceptRanges", laid_unicode_utf8_acceptRanges), ("unicode/utf8.first", laid_unicode_utf8_first)], narrowed := true }
def NumTellsUptoSaid : Prop := numTellsUptoRow.holds Tryd.pinned (OpenSpec.upto numTellsSpec)

/-- 'noontidelaw01.NumBack', WHERE WHAT IT READS IS OF BULK AT MOST 1048576: true; the input reads as it did. -/
def numBackUptoRow : OpenClaim := { program := "ytefkdjikbdgidaadoor", sum := "9c67edf5e2c12bf77854dc68472cd65cce1efb41250478db70de0b8851d803c9", func := "noontide/noontidelaw01.NumBack", spec := "numBack", inPlace := ["internal/bytealg.IndexByteString", "internal/bytealg.IndexString"], named := ["unicode/utf8.first", "unicode/utf8.acceptRanges", "internal/bytealg.MaxLen"], apart := false, laid := [("unicode/utf8.acceptRanges", laid_unicode_utf8_acceptRanges), ("unicode/utf8.first", laid_unicode_utf8_first)], narrowed := true }
def NumBackUptoSaid : Prop := numBackUptoRow.holds Tryd.pinned (OpenSpec.upto numBackSpec)

end Rows
end Go.Proofs.YtefkdjikbdgidaaDoor
