/-
  DERIVED. GIVEN WITH THE SEED: THE CARDS: each row of YtochbeiihhbmeaaDoorRows.lean that lists a variable, with what it lists TIED to the program's text (the seventh form; the later family's looks); each row that meets fmt, with fmt's text TOLD by the authors' own Lean function (tested against real Go, not proved from fmt's source: count such statements apart). THE CARD IS WHAT COUNTS. Prove the row's statement (the work); the ties are given (YtochbeiihhbmeaaDoorTie.lean); close each card by the builder's one call (the guide's Derived/Test/ToyasCard.lean, 'card_holds'). Laid BY PROGRAM, IN A SANDBOX (cutbox-door.mjs). By AI agents, Wed Nov 11 2026. No macro, syntax, notation, axiom, sorry.
-/
import Derived.Test.YtochbeiihhbmeaaDoorRows
import GoSem.ClaimSeven
namespace Go.Proofs.YtochbeiihhbmeaaDoor
namespace Rows

/-- THE TIED CARD OF 'noontidelaw14.FieldsTell'. -/
def fieldsTellCard : Claim7 := { stood := { row := fieldsTellRow, standIns := [], harness := (true, "f329db2b5b743510d3f9c50b45bf5e31ecd7ecbbf65646caf45e08b7bf563d60"), looks := true }, kinds := [], alts := [], laidByText := true, laidKinds := [.data, .pinned], laidTests := true, laidLooks := .later }
def FieldsTellCardSaid : Prop := Claim7.holds Tryd.pinned (.plain (OpenSpec.ofChange fieldsTellSpec)) fieldsTellCard

/-- THE TIED CARD OF 'noontidelaw14.FieldsBack'. -/
def fieldsBackCard : Claim7 := { stood := { row := fieldsBackRow, standIns := [], harness := (true, "f329db2b5b743510d3f9c50b45bf5e31ecd7ecbbf65646caf45e08b7bf563d60"), looks := true }, kinds := [], alts := [], laidByText := true, laidKinds := [.data, .pinned], laidTests := true, laidLooks := .later }
def FieldsBackCardSaid : Prop := Claim7.holds Tryd.pinned (.plain (OpenSpec.ofChange fieldsBackSpec)) fieldsBackCard

/-- THE TIED CARD OF 'noontidelaw14.FieldsNothing'. -/
def fieldsNothingCard : Claim7 := { stood := { row := fieldsNothingRow, standIns := [], harness := (true, "f329db2b5b743510d3f9c50b45bf5e31ecd7ecbbf65646caf45e08b7bf563d60"), looks := true }, kinds := [], alts := [], laidByText := true, laidKinds := [.data, .pinned], laidTests := true, laidLooks := .later }
def FieldsNothingCardSaid : Prop := Claim7.holds Tryd.pinned (.plain (OpenSpec.ofChange fieldsNothingSpec)) fieldsNothingCard

/-- THE SECOND FORM's CARD OF 'noontidelaw14.FieldsTell'. -/
def fieldsTellUptoCard : Claim7 := { stood := { row := fieldsTellUptoRow, standIns := [], harness := (true, "f329db2b5b743510d3f9c50b45bf5e31ecd7ecbbf65646caf45e08b7bf563d60"), looks := true }, kinds := [], alts := [], laidByText := true, laidKinds := [.data, .pinned], laidTests := true, laidLooks := .later }
def FieldsTellUptoCardSaid : Prop := Claim7.holds Tryd.pinned (.plain (OpenSpec.upto fieldsTellSpec)) fieldsTellUptoCard

/-- THE SECOND FORM's CARD OF 'noontidelaw14.FieldsBack'. -/
def fieldsBackUptoCard : Claim7 := { stood := { row := fieldsBackUptoRow, standIns := [], harness := (true, "f329db2b5b743510d3f9c50b45bf5e31ecd7ecbbf65646caf45e08b7bf563d60"), looks := true }, kinds := [], alts := [], laidByText := true, laidKinds := [.data, .pinned], laidTests := true, laidLooks := .later }
def FieldsBackUptoCardSaid : Prop := Claim7.holds Tryd.pinned (.plain (OpenSpec.upto fieldsBackSpec)) fieldsBackUptoCard

/-- THE SECOND FORM's CARD OF 'noontidelaw14.FieldsNothing'. -/
def fieldsNothingUptoCard : Claim7 := { stood := { row := fieldsNothingUptoRow, standIns := [], harness := (true, "f329db2b5b743510d3f9c50b45bf5e31ecd7ecbbf65646caf45e08b7bf563d60"), looks := true }, kinds := [], alts := [], laidByText := true, laidKinds := [.data, .pinned], laidTests := true, laidLooks := .later }
def FieldsNothingUptoCardSaid : Prop := Claim7.holds Tryd.pinned (.plain (OpenSpec.upto fieldsNothingSpec)) fieldsNothingUptoCard
end Rows
end Go.Proofs.YtochbeiihhbmeaaDoor
