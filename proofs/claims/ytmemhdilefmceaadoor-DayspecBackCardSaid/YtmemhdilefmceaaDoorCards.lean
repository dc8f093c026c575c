/-
  DERIVED. GIVEN WITH THE SEED: THE CARDS: each row of YtmemhdilefmceaaDoorRows.lean that lists a variable, with what it lists TIED to the program's text (the seventh form; the later family's looks); each row that meets fmt, with fmt's text TOLD by the authors' own Lean function (tested against real Go, not proved from fmt's source: count such statements apart). THE CARD IS WHAT COUNTS. Prove the row's statement (the work); the ties are given (YtmemhdilefmceaaDoorTie.lean); close each card by the builder's one call (the guide's Derived/Test/ToyasCard.lean, 'card_holds'). Laid BY PROGRAM, IN A SANDBOX (cutbox-door.mjs). By AI agents, Wed Nov 11 2026. No macro, syntax, notation, axiom, sorry.
-/
import Derived.Test.YtmemhdilefmceaaDoorRows
import GoSem.ClaimSeven
namespace Go.Proofs.YtmemhdilefmceaaDoor
namespace Rows

/-- THE TIED CARD OF 'noontidelaw14.FieldsTell'. -/
def fieldsTellCard : Claim7 := { stood := { row := fieldsTellRow, standIns := [], harness := (true, "c5f8334cf8e8485e466600a2ab30dccfbae7d00ee0a088b7e458e7775ffc40ed"), looks := true }, kinds := [], alts := [], laidByText := true, laidKinds := [.data, .pinned], laidTests := true, laidLooks := .later }
def FieldsTellCardSaid : Prop := Claim7.holds Tryd.pinned (.plain (OpenSpec.ofChange fieldsTellSpec)) fieldsTellCard

/-- THE TIED CARD OF 'noontidelaw14.FieldsBack'. -/
def fieldsBackCard : Claim7 := { stood := { row := fieldsBackRow, standIns := [], harness := (true, "c5f8334cf8e8485e466600a2ab30dccfbae7d00ee0a088b7e458e7775ffc40ed"), looks := true }, kinds := [], alts := [], laidByText := true, laidKinds := [.data, .pinned], laidTests := true, laidLooks := .later }
def FieldsBackCardSaid : Prop := Claim7.holds Tryd.pinned (.plain (OpenSpec.ofChange fieldsBackSpec)) fieldsBackCard

/-- THE TIED CARD OF 'noontidelaw14.FieldsNothing'. -/
def fieldsNothingCard : Claim7 := { stood := { row := fieldsNothingRow, standIns := [], harness := (true, "c5f8334cf8e8485e466600a2ab30dccfbae7d00ee0a088b7e458e7775ffc40ed"), looks := true }, kinds := [], alts := [], laidByText := true, laidKinds := [.data, .pinned], laidTests := true, laidLooks := .later }
def FieldsNothingCardSaid : Prop := Claim7.holds Tryd.pinned (.plain (OpenSpec.ofChange fieldsNothingSpec)) fieldsNothingCard

/-- THE TIED CARD OF 'noontidelaw18.DayspecTells'. -/
def dayspecTellsCard : Claim7 := { stood := { row := dayspecTellsRow, standIns := [], harness := (true, "c5f8334cf8e8485e466600a2ab30dccfbae7d00ee0a088b7e458e7775ffc40ed"), looks := true }, kinds := [], alts := [], laidByText := true, laidKinds := [.widerDeep, .data, .pinned], laidTests := true, laidLooks := .later }
def DayspecTellsCardSaid : Prop := Claim7.holds Tryd.pinned (.plain (OpenSpec.ofChange dayspecTellsSpec)) dayspecTellsCard

/-- THE TIED CARD OF 'noontidelaw18.DayspecBack'. -/
def dayspecBackCard : Claim7 := { stood := { row := dayspecBackRow, standIns := [], harness := (true, "c5f8334cf8e8485e466600a2ab30dccfbae7d00ee0a088b7e458e7775ffc40ed"), looks := true }, kinds := [], alts := [], laidByText := true, laidKinds := [.widerDeep, .data, .pinned], laidTests := true, laidLooks := .later }
def DayspecBackCardSaid : Prop := Claim7.holds Tryd.pinned (.plain (OpenSpec.ofChange dayspecBackSpec)) dayspecBackCard

/-- THE TIED CARD OF 'noontidelaw04.StampBack'. -/
def stampBackCard : Claim7 := { stood := { row := stampBackRow, standIns := [], harness := (true, "c5f8334cf8e8485e466600a2ab30dccfbae7d00ee0a088b7e458e7775ffc40ed"), looks := true }, kinds := [], alts := [], laidByText := true, laidKinds := [.data, .data, .pinned], laidTests := true, laidLooks := .later }
def StampBackCardSaid : Prop := Claim7.holds Tryd.pinned (.plain (OpenSpec.ofChange stampBackSpec)) stampBackCard

/-- THE TIED CARD OF 'noontidelaw04.StampOrder'. -/
def stampOrderCard : Claim7 := { stood := { row := stampOrderRow, standIns := [], harness := (true, "c5f8334cf8e8485e466600a2ab30dccfbae7d00ee0a088b7e458e7775ffc40ed"), looks := true }, kinds := [], alts := [], laidByText := true, laidKinds := [.data, .data, .pinned], laidTests := true, laidLooks := .later }
def StampOrderCardSaid : Prop := Claim7.holds Tryd.pinned (.plain (OpenSpec.ofChange stampOrderSpec)) stampOrderCard

/-- THE SECOND FORM's CARD OF 'noontidelaw14.FieldsTell'. -/
def fieldsTellUptoCard : Claim7 := { stood := { row := fieldsTellUptoRow, standIns := [], harness := (true, "c5f8334cf8e8485e466600a2ab30dccfbae7d00ee0a088b7e458e7775ffc40ed"), looks := true }, kinds := [], alts := [], laidByText := true, laidKinds := [.data, .pinned], laidTests := true, laidLooks := .later }
def FieldsTellUptoCardSaid : Prop := Claim7.holds Tryd.pinned (.plain (OpenSpec.upto fieldsTellSpec)) fieldsTellUptoCard

/-- THE SECOND FORM's CARD OF 'noontidelaw14.FieldsBack'. -/
def fieldsBackUptoCard : Claim7 := { stood := { row := fieldsBackUptoRow, standIns := [], harness := (true, "c5f8334cf8e8485e466600a2ab30dccfbae7d00ee0a088b7e458e7775ffc40ed"), looks := true }, kinds := [], alts := [], laidByText := true, laidKinds := [.data, .pinned], laidTests := true, laidLooks := .later }
def FieldsBackUptoCardSaid : Prop := Claim7.holds Tryd.pinned (.plain (OpenSpec.upto fieldsBackSpec)) fieldsBackUptoCard

/-- THE SECOND FORM's CARD OF 'noontidelaw14.FieldsNothing'. -/
def fieldsNothingUptoCard : Claim7 := { stood := { row := fieldsNothingUptoRow, standIns := [], harness := (true, "c5f8334cf8e8485e466600a2ab30dccfbae7d00ee0a088b7e458e7775ffc40ed"), looks := true }, kinds := [], alts := [], laidByText := true, laidKinds := [.data, .pinned], laidTests := true, laidLooks := .later }
def FieldsNothingUptoCardSaid : Prop := Claim7.holds Tryd.pinned (.plain (OpenSpec.upto fieldsNothingSpec)) fieldsNothingUptoCard

/-- THE SECOND FORM's CARD OF 'noontidelaw18.DayspecTells'. -/
def dayspecTellsUptoCard : Claim7 := { stood := { row := dayspecTellsUptoRow, standIns := [], harness := (true, "c5f8334cf8e8485e466600a2ab30dccfbae7d00ee0a088b7e458e7775ffc40ed"), looks := true }, kinds := [], alts := [], laidByText := true, laidKinds := [.widerDeep, .data, .pinned], laidTests := true, laidLooks := .later }
def DayspecTellsUptoCardSaid : Prop := Claim7.holds Tryd.pinned (.plain (OpenSpec.upto dayspecTellsSpec)) dayspecTellsUptoCard

/-- THE SECOND FORM's CARD OF 'noontidelaw18.DayspecBack'. -/
def dayspecBackUptoCard : Claim7 := { stood := { row := dayspecBackUptoRow, standIns := [], harness := (true, "c5f8334cf8e8485e466600a2ab30dccfbae7d00ee0a088b7e458e7775ffc40ed"), looks := true }, kinds := [], alts := [], laidByText := true, laidKinds := [.widerDeep, .data, .pinned], laidTests := true, laidLooks := .later }
def DayspecBackUptoCardSaid : Prop := Claim7.holds Tryd.pinned (.plain (OpenSpec.upto dayspecBackSpec)) dayspecBackUptoCard

/-- THE SECOND FORM's CARD OF 'noontidelaw04.StampBack'. -/
def stampBackUptoCard : Claim7 := { stood := { row := stampBackUptoRow, standIns := [], harness := (true, "c5f8334cf8e8485e466600a2ab30dccfbae7d00ee0a088b7e458e7775ffc40ed"), looks := true }, kinds := [], alts := [], laidByText := true, laidKinds := [.data, .data, .pinned], laidTests := true, laidLooks := .later }
def StampBackUptoCardSaid : Prop := Claim7.holds Tryd.pinned (.plain (OpenSpec.upto stampBackSpec)) stampBackUptoCard

/-- THE SECOND FORM's CARD OF 'noontidelaw04.StampOrder'. -/
def stampOrderUptoCard : Claim7 := { stood := { row := stampOrderUptoRow, standIns := [], harness := (true, "c5f8334cf8e8485e466600a2ab30dccfbae7d00ee0a088b7e458e7775ffc40ed"), looks := true }, kinds := [], alts := [], laidByText := true, laidKinds := [.data, .data, .pinned], laidTests := true, laidLooks := .later }
def StampOrderUptoCardSaid : Prop := Claim7.holds Tryd.pinned (.plain (OpenSpec.upto stampOrderSpec)) stampOrderUptoCard
end Rows
end Go.Proofs.YtmemhdilefmceaaDoor
