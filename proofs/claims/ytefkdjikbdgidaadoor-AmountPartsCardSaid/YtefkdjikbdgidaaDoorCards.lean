/-
  DERIVED. GIVEN WITH THE SEED: THE CARDS: each row of YtefkdjikbdgidaaDoorRows.lean that lists a variable, with what it lists TIED to the program's text (the seventh form; the later family's looks); each row that meets fmt, with fmt's text TOLD by the authors' own Lean function (tested against real Go, not proved from fmt's source: count such statements apart). THE CARD IS WHAT COUNTS. Prove the row's statement (the work); the ties are given (YtefkdjikbdgidaaDoorTie.lean); close each card by the builder's one call (the guide's Derived/Test/ToyasCard.lean, 'card_holds'). Laid BY PROGRAM, IN A SANDBOX (cutbox-door.mjs). By AI agents, Wed Nov 11 2026. No macro, syntax, notation, axiom, sorry.
-/
import Derived.Test.YtefkdjikbdgidaaDoorRows
import GoSem.ClaimSeven
namespace Go.Proofs.YtefkdjikbdgidaaDoor
namespace Rows

/-- THE TIED CARD OF 'noontidelaw15.WordsTell'. -/
def wordsTellCard : Claim7 := { stood := { row := wordsTellRow, standIns := [], harness := (true, "1f12bda2e4c02c9ebeb2ca7f7e542f540f75585df660ca703786947cb65993e9"), looks := false }, kinds := [], alts := [], laidByText := true, laidKinds := [.widerDeep, .widerDeep], laidTests := true, laidLooks := .later }
def WordsTellCardSaid : Prop := Claim7.holds Tryd.pinned (.plain (OpenSpec.ofChange wordsTellSpec)) wordsTellCard

/-- THE TIED CARD OF 'noontidelaw15.WordsMore'. -/
def wordsMoreCard : Claim7 := { stood := { row := wordsMoreRow, standIns := [], harness := (true, "1f12bda2e4c02c9ebeb2ca7f7e542f540f75585df660ca703786947cb65993e9"), looks := false }, kinds := [], alts := [], laidByText := true, laidKinds := [.widerDeep, .widerDeep], laidTests := true, laidLooks := .later }
def WordsMoreCardSaid : Prop := Claim7.holds Tryd.pinned (.plain (OpenSpec.ofChange wordsMoreSpec)) wordsMoreCard

/-- THE TIED CARD OF 'noontidelaw16.AmountTells'. -/
def amountTellsCard : Claim7 := { stood := { row := amountTellsRow, standIns := [], harness := (true, "1f12bda2e4c02c9ebeb2ca7f7e542f540f75585df660ca703786947cb65993e9"), looks := false }, kinds := [], alts := [], laidByText := true, laidKinds := [.data, .wider, .pinned], laidTests := true, laidLooks := .later }
def AmountTellsCardSaid : Prop := Claim7.holds Tryd.pinned (.plain (OpenSpec.ofChange amountTellsSpec)) amountTellsCard

/-- THE TIED CARD OF 'noontidelaw16.AmountBack'. -/
def amountBackCard : Claim7 := { stood := { row := amountBackRow, standIns := [], harness := (true, "1f12bda2e4c02c9ebeb2ca7f7e542f540f75585df660ca703786947cb65993e9"), looks := false }, kinds := [], alts := [], laidByText := true, laidKinds := [.data, .wider, .pinned], laidTests := true, laidLooks := .later }
def AmountBackCardSaid : Prop := Claim7.holds Tryd.pinned (.plain (OpenSpec.ofChange amountBackSpec)) amountBackCard

/-- THE TIED CARD OF 'noontidelaw16.AmountParts'. -/
def amountPartsCard : Claim7 := { stood := { row := amountPartsRow, standIns := [], harness := (true, "1f12bda2e4c02c9ebeb2ca7f7e542f540f75585df660ca703786947cb65993e9"), looks := false }, kinds := [], alts := [], laidByText := true, laidKinds := [.data, .wider, .pinned], laidTests := true, laidLooks := .later }
def AmountPartsCardSaid : Prop := Claim7.holds Tryd.pinned (.plain (OpenSpec.ofChange amountPartsSpec)) amountPartsCard

/-- THE TIED CARD OF 'noontidelaw01.NumTells'. -/
def numTellsCard : Claim7 := { stood := { row := numTellsRow, standIns := [], harness := (true, "1f12bda2e4c02c9ebeb2ca7f7e542f540f75585df660ca703786947cb65993e9"), looks := false }, kinds := [], alts := [], laidByText := true, laidKinds := [.data, .pinned], laidTests := true, laidLooks := .later }
def NumTellsCardSaid : Prop := Claim7.holds Tryd.pinned (.plain (OpenSpec.ofChange numTellsSpec)) numTellsCard

/-- THE TIED CARD OF 'noontidelaw01.NumBack'. -/
def numBackCard : Claim7 := { stood := { row := numBackRow, standIns := [], harness := (true, "1f12bda2e4c02c9ebeb2ca7f7e542f540f75585df660ca703786947cb65993e9"), looks := false }, kinds := [], alts := [], laidByText := true, laidKinds := [.data, .pinned], laidTests := true, laidLooks := .later }
def NumBackCardSaid : Prop := Claim7.holds Tryd.pinned (.plain (OpenSpec.ofChange numBackSpec)) numBackCard

/-- THE SECOND FORM's CARD OF 'noontidelaw15.WordsTell'. -/
def wordsTellUptoCard : Claim7 := { stood := { row := wordsTellUptoRow, standIns := [], harness := (true, "1f12bda2e4c02c9ebeb2ca7f7e542f540f75585df660ca703786947cb65993e9"), looks := false }, kinds := [], alts := [], laidByText := true, laidKinds := [.widerDeep, .widerDeep], laidTests := true, laidLooks := .later }
def WordsTellUptoCardSaid : Prop := Claim7.holds Tryd.pinned (.plain (OpenSpec.upto wordsTellSpec)) wordsTellUptoCard

/-- THE SECOND FORM's CARD OF 'noontidelaw15.WordsMore'. -/
def wordsMoreUptoCard : Claim7 := { stood := { row := wordsMoreUptoRow, standIns := [], harness := (true, "1f12bda2e4c02c9ebeb2ca7f7e542f540f75585df660ca703786947cb65993e9"), looks := false }, kinds := [], alts := [], laidByText := true, laidKinds := [.widerDeep, .widerDeep], laidTests := true, laidLooks := .later }
def WordsMoreUptoCardSaid : Prop := Claim7.holds Tryd.pinned (.plain (OpenSpec.upto wordsMoreSpec)) wordsMoreUptoCard

/-- THE SECOND FORM's CARD OF 'noontidelaw16.AmountTells'. -/
def amountTellsUptoCard : Claim7 := { stood := { row := amountTellsUptoRow, standIns := [], harness := (true, "1f12bda2e4c02c9ebeb2ca7f7e542f540f75585df660ca703786947cb65993e9"), looks := false }, kinds := [], alts := [], laidByText := true, laidKinds := [.data, .wider, .pinned], laidTests := true, laidLooks := .later }
def AmountTellsUptoCardSaid : Prop := Claim7.holds Tryd.pinned (.plain (OpenSpec.upto amountTellsSpec)) amountTellsUptoCard

/-- THE SECOND FORM's CARD OF 'noontidelaw16.AmountBack'. -/
def amountBackUptoCard : Claim7 := { stood := { row := amountBackUptoRow, standIns := [], harness := (true, "1f12bda2e4c02c9ebeb2ca7f7e542f540f75585df660ca703786947cb65993e9"), looks := false }, kinds := [], alts := [], laidByText := true, laidKinds := [.data, .wider, .pinned], laidTests := true, laidLooks := .later }
def AmountBackUptoCardSaid : Prop := Claim7.holds Tryd.pinned (.plain (OpenSpec.upto amountBackSpec)) amountBackUptoCard

/-- THE SECOND FORM's CARD OF 'noontidelaw16.AmountParts'. -/
def amountPartsUptoCard : Claim7 := { stood := { row := amountPartsUptoRow, standIns := [], harness := (true, "1f12bda2e4c02c9ebeb2ca7f7e542f540f75585df660ca703786947cb65993e9"), looks := false }, kinds := [], alts := [], laidByText := true, laidKinds := [.data, .wider, .pinned], laidTests := true, laidLooks := .later }
def AmountPartsUptoCardSaid : Prop := Claim7.holds Tryd.pinned (.plain (OpenSpec.upto amountPartsSpec)) amountPartsUptoCard

/-- THE SECOND FORM's CARD OF 'noontidelaw01.NumTells'. -/
def numTellsUptoCard : Claim7 := { stood := { row := numTellsUptoRow, standIns := [], harness := (true, "1f12bda2e4c02c9ebeb2ca7f7e542f540f75585df660ca703786947cb65993e9"), looks := false }, kinds := [], alts := [], laidByText := true, laidKinds := [.data, .pinned], laidTests := true, laidLooks := .later }
def NumTellsUptoCardSaid : Prop := Claim7.holds Tryd.pinned (.plain (OpenSpec.upto numTellsSpec)) numTellsUptoCard

/-- THE SECOND FORM's CARD OF 'noontidelaw01.NumBack'. -/
def numBackUptoCard : Claim7 := { stood := { row := numBackUptoRow, standIns := [], harness := (true, "1f12bda2e4c02c9ebeb2ca7f7e542f540f75585df660ca703786947cb65993e9"), looks := false }, kinds := [], alts := [], laidByText := true, laidKinds := [.data, .pinned], laidTests := true, laidLooks := .later }
def NumBackUptoCardSaid : Prop := Claim7.holds Tryd.pinned (.plain (OpenSpec.upto numBackSpec)) numBackUptoCard
end Rows
end Go.Proofs.YtefkdjikbdgidaaDoor
