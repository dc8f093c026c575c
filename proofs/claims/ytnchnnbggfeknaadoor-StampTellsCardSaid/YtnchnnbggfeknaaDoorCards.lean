/-
  DERIVED. GIVEN WITH THE SEED: THE CARDS: each row of YtnchnnbggfeknaaDoorRows.lean that lists a variable, with what it lists TIED to the program's text (the seventh form; the later family's looks); each row that meets fmt, with fmt's text TOLD by the authors' own Lean function (tested against real Go, not proved from fmt's source: count such statements apart). THE CARD IS WHAT COUNTS. Prove the row's statement (the work); the ties are given (YtnchnnbggfeknaaDoorTie.lean); close each card by the builder's one call (the guide's Derived/Test/ToyasCard.lean, 'card_holds'). Laid BY PROGRAM, IN A SANDBOX (cutbox-door.mjs). By AI agents, Wed Nov 11 2026. No macro, syntax, notation, axiom, sorry.
-/
import Derived.Test.YtnchnnbggfeknaaDoorRows
import GoSem.ClaimSeven
namespace Go.Proofs.YtnchnnbggfeknaaDoor
namespace Rows

/-- THE TIED CARD OF 'noontidelaw20.FormatTells'. -/
def formatTellsCard : Claim7 := { stood := { row := formatTellsRow, standIns := [], harness := (true, "49165e0f07d7e93643a070a9d30695017e659adcc41822fe01b0a579efbb7bdf"), looks := true }, kinds := [], alts := [], laidByText := true, laidKinds := [.data, .pinned], laidTests := true, laidLooks := .later }
def FormatTellsCardSaid : Prop := Claim7.holds Tryd.pinned (.plain (OpenSpec.ofChange formatTellsSpec)) formatTellsCard

/-- THE TIED CARD OF 'noontidelaw20.FormatHangs'. -/
def formatHangsCard : Claim7 := { stood := { row := formatHangsRow, standIns := [], harness := (true, "49165e0f07d7e93643a070a9d30695017e659adcc41822fe01b0a579efbb7bdf"), looks := true }, kinds := [], alts := [], laidByText := true, laidKinds := [.data, .pinned], laidTests := true, laidLooks := .later }
def FormatHangsCardSaid : Prop := Claim7.holds Tryd.pinned (.plain (OpenSpec.ofChange formatHangsSpec)) formatHangsCard

/-- THE TIED CARD OF 'noontidelaw17.YearTells'. -/
def yearTellsCard : Claim7 := { stood := { row := yearTellsRow, standIns := [], harness := (true, "49165e0f07d7e93643a070a9d30695017e659adcc41822fe01b0a579efbb7bdf"), looks := true }, kinds := [], alts := [], laidByText := true, laidKinds := [.data, .pinned], laidTests := true, laidLooks := .later }
def YearTellsCardSaid : Prop := Claim7.holds Tryd.pinned (.plain (OpenSpec.ofChange yearTellsSpec)) yearTellsCard

/-- THE TIED CARD OF 'noontidelaw17.YearBack'. -/
def yearBackCard : Claim7 := { stood := { row := yearBackRow, standIns := [], harness := (true, "49165e0f07d7e93643a070a9d30695017e659adcc41822fe01b0a579efbb7bdf"), looks := true }, kinds := [], alts := [], laidByText := true, laidKinds := [.data, .pinned], laidTests := true, laidLooks := .later }
def YearBackCardSaid : Prop := Claim7.holds Tryd.pinned (.plain (OpenSpec.ofChange yearBackSpec)) yearBackCard

/-- THE TIED CARD OF 'noontidelaw18.DayspecTells'. -/
def dayspecTellsCard : Claim7 := { stood := { row := dayspecTellsRow, standIns := [], harness := (true, "49165e0f07d7e93643a070a9d30695017e659adcc41822fe01b0a579efbb7bdf"), looks := true }, kinds := [], alts := [], laidByText := true, laidKinds := [.widerDeep, .data, .pinned], laidTests := true, laidLooks := .later }
def DayspecTellsCardSaid : Prop := Claim7.holds Tryd.pinned (.plain (OpenSpec.ofChange dayspecTellsSpec)) dayspecTellsCard

/-- THE TIED CARD OF 'noontidelaw18.DayspecBack'. -/
def dayspecBackCard : Claim7 := { stood := { row := dayspecBackRow, standIns := [], harness := (true, "49165e0f07d7e93643a070a9d30695017e659adcc41822fe01b0a579efbb7bdf"), looks := true }, kinds := [], alts := [], laidByText := true, laidKinds := [.widerDeep, .data, .pinned], laidTests := true, laidLooks := .later }
def DayspecBackCardSaid : Prop := Claim7.holds Tryd.pinned (.plain (OpenSpec.ofChange dayspecBackSpec)) dayspecBackCard

/-- THE TIED CARD OF 'noontidelaw04.StampTells'. -/
def stampTellsCard : Claim7 := { stood := { row := stampTellsRow, standIns := [], harness := (true, "49165e0f07d7e93643a070a9d30695017e659adcc41822fe01b0a579efbb7bdf"), looks := true }, kinds := [], alts := [], laidByText := true, laidKinds := [.data, .data, .pinned], laidTests := true, laidLooks := .later }
def StampTellsCardSaid : Prop := Claim7.holds Tryd.pinned (.plain (OpenSpec.ofChange stampTellsSpec)) stampTellsCard

/-- THE TIED CARD OF 'noontidelaw04.StampBack'. -/
def stampBackCard : Claim7 := { stood := { row := stampBackRow, standIns := [], harness := (true, "49165e0f07d7e93643a070a9d30695017e659adcc41822fe01b0a579efbb7bdf"), looks := true }, kinds := [], alts := [], laidByText := true, laidKinds := [.data, .data, .pinned], laidTests := true, laidLooks := .later }
def StampBackCardSaid : Prop := Claim7.holds Tryd.pinned (.plain (OpenSpec.ofChange stampBackSpec)) stampBackCard

/-- THE TIED CARD OF 'noontidelaw19.ClockTells'. -/
def clockTellsCard : Claim7 := { stood := { row := clockTellsRow, standIns := [], harness := (true, "49165e0f07d7e93643a070a9d30695017e659adcc41822fe01b0a579efbb7bdf"), looks := true }, kinds := [], alts := [], laidByText := true, laidKinds := [.data, .wider, .pinned], laidTests := true, laidLooks := .later }
def ClockTellsCardSaid : Prop := Claim7.holds Tryd.pinned (.plain (OpenSpec.ofChange clockTellsSpec)) clockTellsCard

/-- THE TIED CARD OF 'noontidelaw19.ClockBack'. -/
def clockBackCard : Claim7 := { stood := { row := clockBackRow, standIns := [], harness := (true, "49165e0f07d7e93643a070a9d30695017e659adcc41822fe01b0a579efbb7bdf"), looks := true }, kinds := [], alts := [], laidByText := true, laidKinds := [.data, .wider, .pinned], laidTests := true, laidLooks := .later }
def ClockBackCardSaid : Prop := Claim7.holds Tryd.pinned (.plain (OpenSpec.ofChange clockBackSpec)) clockBackCard

/-- THE TIED CARD OF 'noontidelaw04.StampOrder'. -/
def stampOrderCard : Claim7 := { stood := { row := stampOrderRow, standIns := [], harness := (true, "49165e0f07d7e93643a070a9d30695017e659adcc41822fe01b0a579efbb7bdf"), looks := true }, kinds := [], alts := [], laidByText := true, laidKinds := [.data, .data, .pinned], laidTests := true, laidLooks := .later }
def StampOrderCardSaid : Prop := Claim7.holds Tryd.pinned (.plain (OpenSpec.ofChange stampOrderSpec)) stampOrderCard

/-- THE SECOND FORM's CARD OF 'noontidelaw20.FormatTells'. -/
def formatTellsUptoCard : Claim7 := { stood := { row := formatTellsUptoRow, standIns := [], harness := (true, "49165e0f07d7e93643a070a9d30695017e659adcc41822fe01b0a579efbb7bdf"), looks := true }, kinds := [], alts := [], laidByText := true, laidKinds := [.data, .pinned], laidTests := true, laidLooks := .later }
def FormatTellsUptoCardSaid : Prop := Claim7.holds Tryd.pinned (.plain (OpenSpec.upto formatTellsSpec)) formatTellsUptoCard

/-- THE SECOND FORM's CARD OF 'noontidelaw20.FormatHangs'. -/
def formatHangsUptoCard : Claim7 := { stood := { row := formatHangsUptoRow, standIns := [], harness := (true, "49165e0f07d7e93643a070a9d30695017e659adcc41822fe01b0a579efbb7bdf"), looks := true }, kinds := [], alts := [], laidByText := true, laidKinds := [.data, .pinned], laidTests := true, laidLooks := .later }
def FormatHangsUptoCardSaid : Prop := Claim7.holds Tryd.pinned (.plain (OpenSpec.upto formatHangsSpec)) formatHangsUptoCard

/-- THE SECOND FORM's CARD OF 'noontidelaw17.YearTells'. -/
def yearTellsUptoCard : Claim7 := { stood := { row := yearTellsUptoRow, standIns := [], harness := (true, "49165e0f07d7e93643a070a9d30695017e659adcc41822fe01b0a579efbb7bdf"), looks := true }, kinds := [], alts := [], laidByText := true, laidKinds := [.data, .pinned], laidTests := true, laidLooks := .later }
def YearTellsUptoCardSaid : Prop := Claim7.holds Tryd.pinned (.plain (OpenSpec.upto yearTellsSpec)) yearTellsUptoCard

/-- THE SECOND FORM's CARD OF 'noontidelaw17.YearBack'. -/
def yearBackUptoCard : Claim7 := { stood := { row := yearBackUptoRow, standIns := [], harness := (true, "49165e0f07d7e93643a070a9d30695017e659adcc41822fe01b0a579efbb7bdf"), looks := true }, kinds := [], alts := [], laidByText := true, laidKinds := [.data, .pinned], laidTests := true, laidLooks := .later }
def YearBackUptoCardSaid : Prop := Claim7.holds Tryd.pinned (.plain (OpenSpec.upto yearBackSpec)) yearBackUptoCard

/-- THE SECOND FORM's CARD OF 'noontidelaw18.DayspecTells'. -/
def dayspecTellsUptoCard : Claim7 := { stood := { row := dayspecTellsUptoRow, standIns := [], harness := (true, "49165e0f07d7e93643a070a9d30695017e659adcc41822fe01b0a579efbb7bdf"), looks := true }, kinds := [], alts := [], laidByText := true, laidKinds := [.widerDeep, .data, .pinned], laidTests := true, laidLooks := .later }
def DayspecTellsUptoCardSaid : Prop := Claim7.holds Tryd.pinned (.plain (OpenSpec.upto dayspecTellsSpec)) dayspecTellsUptoCard

/-- THE SECOND FORM's CARD OF 'noontidelaw18.DayspecBack'. -/
def dayspecBackUptoCard : Claim7 := { stood := { row := dayspecBackUptoRow, standIns := [], harness := (true, "49165e0f07d7e93643a070a9d30695017e659adcc41822fe01b0a579efbb7bdf"), looks := true }, kinds := [], alts := [], laidByText := true, laidKinds := [.widerDeep, .data, .pinned], laidTests := true, laidLooks := .later }
def DayspecBackUptoCardSaid : Prop := Claim7.holds Tryd.pinned (.plain (OpenSpec.upto dayspecBackSpec)) dayspecBackUptoCard

/-- THE SECOND FORM's CARD OF 'noontidelaw04.StampTells'. -/
def stampTellsUptoCard : Claim7 := { stood := { row := stampTellsUptoRow, standIns := [], harness := (true, "49165e0f07d7e93643a070a9d30695017e659adcc41822fe01b0a579efbb7bdf"), looks := true }, kinds := [], alts := [], laidByText := true, laidKinds := [.data, .data, .pinned], laidTests := true, laidLooks := .later }
def StampTellsUptoCardSaid : Prop := Claim7.holds Tryd.pinned (.plain (OpenSpec.upto stampTellsSpec)) stampTellsUptoCard

/-- THE SECOND FORM's CARD OF 'noontidelaw04.StampBack'. -/
def stampBackUptoCard : Claim7 := { stood := { row := stampBackUptoRow, standIns := [], harness := (true, "49165e0f07d7e93643a070a9d30695017e659adcc41822fe01b0a579efbb7bdf"), looks := true }, kinds := [], alts := [], laidByText := true, laidKinds := [.data, .data, .pinned], laidTests := true, laidLooks := .later }
def StampBackUptoCardSaid : Prop := Claim7.holds Tryd.pinned (.plain (OpenSpec.upto stampBackSpec)) stampBackUptoCard

/-- THE SECOND FORM's CARD OF 'noontidelaw19.ClockTells'. -/
def clockTellsUptoCard : Claim7 := { stood := { row := clockTellsUptoRow, standIns := [], harness := (true, "49165e0f07d7e93643a070a9d30695017e659adcc41822fe01b0a579efbb7bdf"), looks := true }, kinds := [], alts := [], laidByText := true, laidKinds := [.data, .wider, .pinned], laidTests := true, laidLooks := .later }
def ClockTellsUptoCardSaid : Prop := Claim7.holds Tryd.pinned (.plain (OpenSpec.upto clockTellsSpec)) clockTellsUptoCard

/-- THE SECOND FORM's CARD OF 'noontidelaw19.ClockBack'. -/
def clockBackUptoCard : Claim7 := { stood := { row := clockBackUptoRow, standIns := [], harness := (true, "49165e0f07d7e93643a070a9d30695017e659adcc41822fe01b0a579efbb7bdf"), looks := true }, kinds := [], alts := [], laidByText := true, laidKinds := [.data, .wider, .pinned], laidTests := true, laidLooks := .later }
def ClockBackUptoCardSaid : Prop := Claim7.holds Tryd.pinned (.plain (OpenSpec.upto clockBackSpec)) clockBackUptoCard

/-- THE SECOND FORM's CARD OF 'noontidelaw04.StampOrder'. -/
def stampOrderUptoCard : Claim7 := { stood := { row := stampOrderUptoRow, standIns := [], harness := (true, "49165e0f07d7e93643a070a9d30695017e659adcc41822fe01b0a579efbb7bdf"), looks := true }, kinds := [], alts := [], laidByText := true, laidKinds := [.data, .data, .pinned], laidTests := true, laidLooks := .later }
def StampOrderUptoCardSaid : Prop := Claim7.holds Tryd.pinned (.plain (OpenSpec.upto stampOrderSpec)) stampOrderUptoCard
end Rows
end Go.Proofs.YtnchnnbggfeknaaDoor
