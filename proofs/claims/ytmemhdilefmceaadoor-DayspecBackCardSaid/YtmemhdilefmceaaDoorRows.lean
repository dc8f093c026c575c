/-
  NARROWER THAN 'FOR EVERY INPUT', by the rows' own cells (each row's printed sentence says how): FieldsTell: laid · FieldsBack: laid · FieldsNothing: laid · DayspecTells: laid · DayspecBack: laid · StampBack: laid · StampOrder: laid.
  DERIVED. THE GIVEN ROWS OF THIS SEAT. 7 by the template 'for every input the law returns true; each argument reads behind the call as it read before'; 0 by the template 'total and deterministic' (their statements: YtmemhdilefmceaaDoorTotals.lean).
  GIVEN WITH THE SEED: the statements are not yours to turn. If you find one false, say at which input.
  Laid BY PROGRAM, IN A SANDBOX (cutbox-rows.mjs): the forced cells as the released guide's own fill.sh prints them over the translation 006a86fb7f05c83f… (all of the seat's roots in one cut). By AI agents, Wed Nov 11 2026. No macro, syntax, notation, axiom, sorry.
-/
import Derived.Test.YtmemhdilefmceaaDoorChecked
import GoSem.PinnedTables
import GoSem.Claim
import GoSem.ClaimJoined
import GoSem.ClaimMapViews
import Derived.JoinedTies
import Derived.KernelRfl
namespace Go.Proofs.YtmemhdilefmceaaDoor
/- THE CELL 'sum', in the pinned program and in every row, IS THE sha256 OF THE DUMP (.gsa) THAT YtmemhdilefmceaaDoorProg.lean LOADS. Nothing in Lean hashes anything: it is a label: what it is worth is what the hold of that sum in a sandbox is worth. -/
noncomputable def Tryd.pinned : Pinned := { name := "ytmemhdilefmceaadoor", sum := "006a86fb7f05c83f3c3e63d53eed0a7a8887bf3b6add338602e2afe869075e04", checked := Tryd.checked }
namespace Rows
def none {H : Type} : Left H := { results := [], args := [] }

/- WHAT THE LISTED PACKAGE-LEVEL VARIABLES READ AS WHEN THE CALL BEGINS. Each datum BY PROGRAM (the guide's laid-datum.mjs) off the statement by which the dump's own 'gosem.cut.vars' lays the variable. In a bare row this is a premise. The card (YtmemhdilefmceaaDoorCards.lean) ties it to the program's text. -/
def laid_unicode_utf8_acceptRanges {H : Type} : DataW H := .agg [.agg [.lit (.int .u8 128), .lit (.int .u8 191)], .agg [.lit (.int .u8 160), .lit (.int .u8 191)], .agg [.lit (.int .u8 128), .lit (.int .u8 159)], .agg [.lit (.int .u8 144), .lit (.int .u8 191)], .agg [.lit (.int .u8 128), .lit (.int .u8 143)], .agg [.lit (.int .u8 0), .lit (.int .u8 0)], .agg [.lit (.int .u8 0), .lit (.int .u8 0)], .agg [.lit (.int .u8 0), .lit (.int .u8 0)], .agg [.lit (.int .u8 0), .lit (.int .u8 0)], .agg [.lit (.int .u8 0), .lit (.int .u8 0)], .agg [.lit (.int .u8 0), .lit (.int .u8 0)], .agg [.lit (.int .u8 0), .lit (.int .u8 0)], .agg [.lit (.int .u8 0), .lit (.int .u8 0)], .agg [.lit (.int .u8 0), .lit (.int .u8 0)], .agg [.lit (.int .u8 0), .lit (.int .u8 0)], .agg [.lit (.int .u8 0), .lit (.int .u8 0)]]
/-- One of Go's own tables, pinned by name: the form's constant. -/
def laid_unicode_utf8_first : DataW Unit := Go.Pinned.utf8First
def laid_noontide_words_weekdays {H : Type} : DataW H := .agg [.lit (.string [83, 117, 110, 100, 97, 121]), .lit (.string [77, 111, 110, 100, 97, 121]), .lit (.string [84, 117, 101, 115, 100, 97, 121]), .lit (.string [87, 101, 100, 110, 101, 115, 100, 97, 121]), .lit (.string [84, 104, 117, 114, 115, 100, 97, 121]), .lit (.string [70, 114, 105, 100, 97, 121]), .lit (.string [83, 97, 116, 117, 114, 100, 97, 121])]
def laid_noontide_stamp_signs {H : Type} : DataW H := .agg [.lit (.int .u8 45), .lit (.int .u8 45), .lit (.int .u8 84), .lit (.int .u8 58), .lit (.int .u8 58)]

/-- 'noontidelaw14.FieldsTell': WHATEVER THE INPUT: true; the input reads as it did. -/
def fieldsTellSpec : ChangeSpec := { name := "fieldsTell", fn := fun _ => fun
  | [d1, d2] => { results := [.lit (.bool true)], args := [d1, d2] }
  | _ => none }
def fieldsTellRow : OpenClaim := { program := "ytmemhdilefmceaadoor", sum := "006a86fb7f05c83f3c3e63d53eed0a7a8887bf3b6add338602e2afe869075e04", func := "noontide/noontidelaw14.FieldsTell", spec := "fieldsTell", inPlace := ["internal/bytealg.IndexByteString", "internal/bytealg.IndexString", "internal/abi.NoEscape", "internal/bytealg.MakeNoZero"], unfollowed := true, recurses := true, named := ["unicode/utf8.first", "unicode/utf8.acceptRanges", "internal/bytealg.MaxLen"], apart := false, laid := [("unicode/utf8.acceptRanges", laid_unicode_utf8_acceptRanges), ("unicode/utf8.first", laid_unicode_utf8_first)] }
def FieldsTellSaid : Prop := fieldsTellRow.holds Tryd.pinned (OpenSpec.ofChange fieldsTellSpec)

/-- ITS FALSE NEIGHBOUR: 'it returns false'. Refute it at one input. -/
def fieldsTellWrong : ChangeSpec := { name := "fieldsTell", fn := fun _ => fun
  | [d1, d2] => { results := [.lit (.bool false)], args := [d1, d2] }
  | _ => none }
def FieldsTellWrongFalsely : Prop := fieldsTellRow.holds Tryd.pinned (OpenSpec.ofChange fieldsTellWrong)

/-- 'noontidelaw14.FieldsBack': WHATEVER THE INPUT: true; the input reads as it did. -/
def fieldsBackSpec : ChangeSpec := { name := "fieldsBack", fn := fun _ => fun
  | [d1, d2] => { results := [.lit (.bool true)], args := [d1, d2] }
  | _ => none }
def fieldsBackRow : OpenClaim := { program := "ytmemhdilefmceaadoor", sum := "006a86fb7f05c83f3c3e63d53eed0a7a8887bf3b6add338602e2afe869075e04", func := "noontide/noontidelaw14.FieldsBack", spec := "fieldsBack", inPlace := ["internal/bytealg.IndexByteString", "internal/bytealg.IndexString", "internal/abi.NoEscape", "internal/bytealg.MakeNoZero"], unfollowed := true, recurses := true, named := ["unicode/utf8.first", "unicode/utf8.acceptRanges", "internal/bytealg.MaxLen"], apart := false, laid := [("unicode/utf8.acceptRanges", laid_unicode_utf8_acceptRanges), ("unicode/utf8.first", laid_unicode_utf8_first)] }
def FieldsBackSaid : Prop := fieldsBackRow.holds Tryd.pinned (OpenSpec.ofChange fieldsBackSpec)

/-- ITS FALSE NEIGHBOUR: 'it returns false'. Refute it at one input. -/
def fieldsBackWrong : ChangeSpec := { name := "fieldsBack", fn := fun _ => fun
  | [d1, d2] => { results := [.lit (.bool false)], args := [d1, d2] }
  | _ => none }
def FieldsBackWrongFalsely : Prop := fieldsBackRow.holds Tryd.pinned (OpenSpec.ofChange fieldsBackWrong)

/-- 'noontidelaw14.FieldsNothing': WHATEVER THE INPUT: true; the input reads as it did. -/
def fieldsNothingSpec : ChangeSpec := { name := "fieldsNothing", fn := fun _ => fun
  | [d1, d2, d3] => { results := [.lit (.bool true)], args := [d1, d2, d3] }
  | _ => none }
def fieldsNothingRow : OpenClaim := { program := "ytmemhdilefmceaadoor", sum := "006a86fb7f05c83f3c3e63d53eed0a7a8887bf3b6add338602e2afe869075e04", func := "noontide/noontidelaw14.FieldsNothing", spec := "fieldsNothing", inPlace := ["internal/bytealg.IndexByteString", "internal/bytealg.IndexString", "internal/abi.NoEscape", "internal/bytealg.MakeNoZero"], unfollowed := true, recurses := true, named := ["unicode/utf8.first", "unicode/utf8.acceptRanges", "internal/bytealg.MaxLen"], apart := false, laid := [("unicode/utf8.acceptRanges", laid_unicode_utf8_acceptRanges), ("unicode/utf8.first", laid_unicode_utf8_first)] }
def FieldsNothingSaid : Prop := fieldsNothingRow.holds Tryd.pinned (OpenSpec.ofChange fieldsNothingSpec)

/-- ITS FALSE NEIGHBOUR: 'it returns false'. Refute it at one input. -/
def fieldsNothingWrong : ChangeSpec := { name := "fieldsNothing", fn := fun _ => fun
  | [d1, d2, d3] => { results := [.lit (.bool false)], args := [d1, d2, d3] }
  | _ => none }
def FieldsNothingWrongFalsely : Prop := fieldsNothingRow.holds Tryd.pinned (OpenSpec.ofChange fieldsNothingWrong)

/-- 'noontidelaw18.DayspecTells': WHATEVER THE INPUT: true; the input reads as it did. -/
def dayspecTellsSpec : ChangeSpec := { name := "dayspecTells", fn := fun _ => fun
  | [d1, d2] => { results := [.lit (.bool true)], args := [d1, d2] }
  | _ => none }
def dayspecTellsRow : OpenClaim := { program := "ytmemhdilefmceaadoor", sum := "006a86fb7f05c83f3c3e63d53eed0a7a8887bf3b6add338602e2afe869075e04", func := "noontide/noontidelaw18.DayspecTells", spec := "dayspecTells", inPlace := ["internal/bytealg.IndexByteString", "internal/bytealg.IndexString"], unfollowed := true, recurses := true, named := ["noontide/words.weekdays", "unicode/utf8.first", "unicode/utf8.acceptRanges", "internal/bytealg.MaxLen"], apart := false, laid := [("noontide/words.weekdays", laid_noontide_words_weekdays), ("unicode/utf8.acceptRanges", laid_unicode_utf8_acceptRanges), ("unicode/utf8.first", laid_unicode_utf8_first)] }
def DayspecTellsSaid : Prop := dayspecTellsRow.holds Tryd.pinned (OpenSpec.ofChange dayspecTellsSpec)

/-- ITS FALSE NEIGHBOUR: 'it returns false'. Refute it at one input. -/
def dayspecTellsWrong : ChangeSpec := { name := "dayspecTells", fn := fun _ => fun
  | [d1, d2] => { results := [.lit (.bool false)], args := [d1, d2] }
  | _ => none }
def DayspecTellsWrongFalsely : Prop := dayspecTellsRow.holds Tryd.pinned (OpenSpec.ofChange dayspecTellsWrong)

/-- 'noontidelaw18.DayspecBack': WHATEVER THE INPUT: true; the input reads as it did. -/
def dayspecBackSpec : ChangeSpec := { name := "dayspecBack", fn := fun _ => fun
  | [d1, d2] => { results := [.lit (.bool true)], args := [d1, d2] }
  | _ => none }
def dayspecBackRow : OpenClaim := { program := "ytmemhdilefmceaadoor", sum := "006a86fb7f05c83f3c3e63d53eed0a7a8887bf3b6add338602e2afe869075e04", func := "noontide/noontidelaw18.DayspecBack", spec := "dayspecBack", inPlace := ["internal/bytealg.IndexByteString", "internal/bytealg.IndexString"], unfollowed := true, recurses := true, named := ["noontide/words.weekdays", "unicode/utf8.first", "unicode/utf8.acceptRanges", "internal/bytealg.MaxLen"], apart := false, laid := [("noontide/words.weekdays", laid_noontide_words_weekdays), ("unicode/utf8.acceptRanges", laid_unicode_utf8_acceptRanges), ("unicode/utf8.first", laid_unicode_utf8_first)] }
def DayspecBackSaid : Prop := dayspecBackRow.holds Tryd.pinned (OpenSpec.ofChange dayspecBackSpec)

/-- ITS FALSE NEIGHBOUR: 'it returns false'. Refute it at one input. -/
def dayspecBackWrong : ChangeSpec := { name := "dayspecBack", fn := fun _ => fun
  | [d1, d2] => { results := [.lit (.bool false)], args := [d1, d2] }
  | _ => none }
def DayspecBackWrongFalsely : Prop := dayspecBackRow.holds Tryd.pinned (OpenSpec.ofChange dayspecBackWrong)

/-- 'noontidelaw04.StampBack': WHATEVER THE INPUT: true; the input reads as it did. -/
def stampBackSpec : ChangeSpec := { name := "stampBack", fn := fun _ => fun
  | [d1, d2] => { results := [.lit (.bool true)], args := [d1, d2] }
  | _ => none }
def stampBackRow : OpenClaim := { program := "ytmemhdilefmceaadoor", sum := "006a86fb7f05c83f3c3e63d53eed0a7a8887bf3b6add338602e2afe869075e04", func := "noontide/noontidelaw04.StampBack", spec := "stampBack", inPlace := ["internal/bytealg.IndexByteString", "internal/bytealg.IndexString"], named := ["noontide/stamp.signs", "unicode/utf8.first", "unicode/utf8.acceptRanges", "internal/bytealg.MaxLen"], apart := false, laid := [("unicode/utf8.acceptRanges", laid_unicode_utf8_acceptRanges), ("noontide/stamp.signs", laid_noontide_stamp_signs), ("unicode/utf8.first", laid_unicode_utf8_first)] }
def StampBackSaid : Prop := stampBackRow.holds Tryd.pinned (OpenSpec.ofChange stampBackSpec)

/-- ITS FALSE NEIGHBOUR: 'it returns false'. Refute it at one input. -/
def stampBackWrong : ChangeSpec := { name := "stampBack", fn := fun _ => fun
  | [d1, d2] => { results := [.lit (.bool false)], args := [d1, d2] }
  | _ => none }
def StampBackWrongFalsely : Prop := stampBackRow.holds Tryd.pinned (OpenSpec.ofChange stampBackWrong)

/-- 'noontidelaw04.StampOrder': WHATEVER THE INPUT: true; the input reads as it did. -/
def stampOrderSpec : ChangeSpec := { name := "stampOrder", fn := fun _ => fun
  | [d1, d2] => { results := [.lit (.bool true)], args := [d1, d2] }
  | _ => none }
def stampOrderRow : OpenClaim := { program := "ytmemhdilefmceaadoor", sum := "006a86fb7f05c83f3c3e63d53eed0a7a8887bf3b6add338602e2afe869075e04", func := "noontide/noontidelaw04.StampOrder", spec := "stampOrder", inPlace := ["internal/bytealg.IndexByteString", "internal/bytealg.IndexString"], named := ["noontide/stamp.signs", "unicode/utf8.first", "unicode/utf8.acceptRanges", "internal/bytealg.MaxLen"], apart := false, laid := [("unicode/utf8.acceptRanges", laid_unicode_utf8_acceptRanges), ("noontide/stamp.signs", laid_noontide_stamp_signs), ("unicode/utf8.first", laid_unicode_utf8_first)] }
def StampOrderSaid : Prop := stampOrderRow.holds Tryd.pinned (OpenSpec.ofChange stampOrderSpec)

/-- ITS FALSE NEIGHBOUR: 'it returns false'. Refute it at one input. -/
def stampOrderWrong : ChangeSpec := { name := "stampOrder", fn := fun _ => fun
  | [d1, d2] => { results := [.lit (.bool false)], args := [d1, d2] }
  | _ => none }
def StampOrderWrongFalsely : Prop := stampOrderRow.holds Tryd.pinned (OpenSpec.ofChange stampOrderWrong)

/- THE SECOND FORM. 'bulk': how many values and letters a reading holds, each counted each time it is reached (what is shared counts as often as it is met; a slice's spare places count too). A statement '..UptoSaid' is the law's where the arguments, and the package variables that the reading takes, are together of bulk at most 1048576: NARROWER than '..Said'. Prove '..Said' where nothing that the law and all that it calls make is longer than what came in: it says more and counts as full. Else prove '..UptoSaid'. A law counts once. -/
mutual
def uptoBulk {H : Type} : DataW H → Nat
  | .lit (.string bytes) => bytes.length + 1
  | .lit _ => 1
  | .nil => 1
  | .ptr d => uptoBulk d + 1
  | .slice elems spare => uptoBulkAll elems + uptoBulkAll spare + 1
  | .agg parts => uptoBulkAll parts + 1
  | .iface _ d => uptoBulk d + 1
  | .map entries => uptoBulkEntries entries + 1
  | .held _ => 1
def uptoBulkAll {H : Type} : List (DataW H) → Nat
  | [] => 0
  | d :: r => uptoBulk d + uptoBulkAll r
def uptoBulkEntries {H : Type} : List (Lit × DataW H) → Nat
  | [] => 0
  | x :: r => uptoBulkEntry x + uptoBulkEntries r
def uptoBulkEntry {H : Type} : Lit × DataW H → Nat
  | (.string bytes, d) => bytes.length + uptoBulk d + 1
  | (_, d) => uptoBulk d + 1
 end
def uptoSmall : (H : Type) → List (DataW H) → Bool := fun _ ds => decide (uptoBulkAll ds ≤ 1048576)
def OpenSpec.upto (s : _root_.Go.ChangeSpec) : _root_.Go.OpenSpec := { _root_.Go.OpenSpec.ofChange s with cond := some uptoSmall }

/-- 'noontidelaw14.FieldsTell', WHERE WHAT IT READS IS OF BULK AT MOST 1048576: true; the input reads as it did. -/
def fieldsTellUptoRow : OpenClaim := { program := "ytmemhdilefmceaadoor", sum := "006a86fb7f05c83f3c3e63d53eed0a7a8887bf3b6add338602e2afe869075e04", func := "noontide/noontidelaw14.FieldsTell", spec := "fieldsTell", inPlace := ["internal/bytealg.IndexByteString", "internal/bytealg.IndexString", "internal/abi.NoEscape", "internal/bytealg.MakeNoZero"], unfollowed := true, recurses := true, named := ["unicode/utf8.first", "unicode/utf8.acceptRanges", "internal/bytealg.MaxLen"], apart := false, laid := [("unicode/utf8.acceptRanges", laid_unicode_utf8_acceptRanges), ("unicode/utf8.first", laid_unicode_utf8_first)], narrowed := true }
def FieldsTellUptoSaid : Prop := fieldsTellUptoRow.holds Tryd.pinned (OpenSpec.upto fieldsTellSpec)

/-- 'noontidelaw14.FieldsBack', WHERE WHAT IT READS IS OF BULK AT MOST 1048576: true; the input reads as it did. -/
def fieldsBackUptoRow : OpenClaim := { program := "ytmemhdilefmceaadoor", sum := "006a86fb7f05c83f3c3e63d53eed0a7a8887bf3b6add338602e2afe869075e04", func := "noontide/noontidelaw14.FieldsBack", spec := "fieldsBack", inPlace := ["internal/bytealg.IndexByteString", "internal/bytealg.IndexString", "internal/abi.NoEscape", "internal/bytealg.MakeNoZero"], unfollowed := true, recurses := true, named := ["unicode/utf8.first", "unicode/utf8.acceptRanges", "internal/bytealg.MaxLen"], apart := false, laid := [("unicode/utf8.acceptRanges", laid_unicode_utf8_acceptRanges), ("unicode/utf8.first", laid_unicode_utf8_first)], narrowed := true }
def FieldsBackUptoSaid : Prop := fieldsBackUptoRow.holds Tryd.pinned (OpenSpec.upto fieldsBackSpec)

/-- 'noontidelaw14.FieldsNothing', WHERE WHAT IT READS IS OF BULK AT MOST 1048576: true; the input reads as it did. -/
def fieldsNothingUptoRow : OpenClaim := { program := "ytmemhdilefmceaadoor", sum := "006a86fb7f05c83f3c3e63d53eed0a7a8887bf3b6add338602e2afe869075e04", func := "noontide/noontidelaw14.FieldsNothing", spec := "fieldsNothing", inPlace := ["internal/bytealg.IndexByteString", "internal/bytealg.IndexString", "internal/abi.NoEscape", "internal/bytealg.MakeNoZero"], unfollowed := true, recurses := true, named := ["unicode/utf8.first", "unicode/utf8.acceptRanges", "internal/bytealg.MaxLen"], apart := false, laid := [("unicode/utf8.acceptRanges", laid_unicode_utf8_acceptRanges), ("unicode/utf8.first", laid_unicode_utf8_first)], narrowed := true }
def FieldsNothingUptoSaid : Prop := fieldsNothingUptoRow.holds Tryd.pinned (OpenSpec.upto fieldsNothingSpec)

/-- 'noontidelaw18.DayspecTells', WHERE WHAT IT READS IS OF BULK AT MOST 1048576: true; the input reads as it did. -/
def dayspecTellsUptoRow : OpenClaim := { program := "ytmemhdilefmceaadoor", sum := "006a86fb7f05c83f3c3e63d53eed0a7a8887bf3b6add338602e2afe869075e04", func := "noontide/noontidelaw18.DayspecTells", spec := "dayspecTells", inPlace := ["internal/bytealg.IndexByteString", "internal/bytealg.IndexString"], unfollowed := true, recurses := true, named := ["noontide/words.weekdays", "unicode/utf8.first", "unicode/utf8.acceptRanges", "internal/bytealg.MaxLen"], apart := false, laid := [("noontide/words.weekdays", laid_noontide_words_weekdays), ("unicode/utf8.acceptRanges", laid_unicode_utf8_acceptRanges), ("unicode/utf8.first", laid_unicode_utf8_first)], narrowed := true }
def DayspecTellsUptoSaid : Prop := dayspecTellsUptoRow.holds Tryd.pinned (OpenSpec.upto dayspecTellsSpec)

/-- 'noontidelaw18.DayspecBack', WHERE WHAT IT READS IS OF BULK AT MOST 1048576: true; the input reads as it did. -/
def dayspecBackUptoRow : OpenClaim := { program := "ytmemhdilefmceaadoor", sum := "006a86fb7f05c83f3c3e63d53eed0a7a8887bf3b6add338602e2afe869075e04", func := "noontide/noontidelaw18.DayspecBack", spec := "dayspecBack", inPlace := ["internal/bytealg.IndexByteString", "internal/bytealg.IndexString"], unfollowed := true, recurses := true, named := ["noontide/words.weekdays", "unicode/utf8.first", "unicode/utf8.acceptRanges", "internal/bytealg.MaxLen"], apart := false, laid := [("noontide/words.weekdays", laid_noontide_words_weekdays), ("unicode/utf8.acceptRanges", laid_unicode_utf8_acceptRanges), ("unicode/utf8.first", laid_unicode_utf8_first)], narrowed := true }
def DayspecBackUptoSaid : Prop := dayspecBackUptoRow.holds Tryd.pinned (OpenSpec.upto dayspecBackSpec)

/-- 'noontidelaw04.StampBack', WHERE WHAT IT READS IS OF BULK AT MOST 1048576: true; the input reads as it did. -/
def stampBackUptoRow : OpenClaim := { program := "ytmemhdilefmceaadoor", sum := "006a86fb7f05c83f3c3e63d53eed0a7a8887bf3b6add338602e2afe869075e04", func := "noontide/noontidelaw04.StampBack", spec := "stampBack", inPlace := ["internal/bytealg.IndexByteString", "internal/bytealg.IndexString"], named := ["noontide/stamp.signs", "unicode/utf8.first", "unicode/utf8.acceptRanges", "internal/bytealg.MaxLen"], apart := false, laid := [("unicode/utf8.acceptRanges", laid_unicode_utf8_acceptRanges), ("noontide/stamp.signs", laid_noontide_stamp_signs), ("unicode/utf8.first", laid_unicode_utf8_first)], narrowed := true }
def StampBackUptoSaid : Prop := stampBackUptoRow.holds Tryd.pinned (OpenSpec.upto stampBackSpec)

/-- 'noontidelaw04.StampOrder', WHERE WHAT IT READS IS OF BULK AT MOST 1048576: true; the input reads as it did. -/
def stampOrderUptoRow : OpenClaim := { program := "ytmemhdilefmceaadoor", sum := "006a86fb7f05c83f3c3e63d53eed0a7a8887bf3b6add338602e2afe869075e04", func := "noontide/noontidelaw04.StampOrder", spec := "stampOrder", inPlace := ["internal/bytealg.IndexByteString", "internal/bytealg.IndexString"], named := ["noontide/stamp.signs", "unicode/utf8.first", "unicode/utf8.acceptRanges", "internal/bytealg.MaxLen"], apart := false, laid := [("unicode/utf8.acceptRanges", laid_unicode_utf8_acceptRanges), ("noontide/stamp.signs", laid_noontide_stamp_signs), ("unicode/utf8.first", laid_unicode_utf8_first)], narrowed := true }
def StampOrderUptoSaid : Prop := stampOrderUptoRow.holds Tryd.pinned (OpenSpec.upto stampOrderSpec)

end Rows
end Go.Proofs.YtmemhdilefmceaaDoor
