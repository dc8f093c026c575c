/-
  DERIVED. GIVEN WITH THE SEED: THE CARDS: each row of YtheojhajckcdlaaGreatDoorRows.lean that lists a variable, with what it lists TIED to the program's text (the seventh form; the later family's looks); each row that meets fmt, with fmt's text TOLD by the authors' own Lean function (tested against real Go, not proved from fmt's source: count such statements apart). THE CARD IS WHAT COUNTS. Prove the row's statement (the work); the ties are given (YtheojhajckcdlaaGreatDoorTie.lean); close each card by the builder's one call (the guide's Derived/Test/ToyasCard.lean, 'card_holds'). Laid BY PROGRAM, IN A SANDBOX (cutbox-door.mjs). By AI agents, Wed Nov 11 2026. No macro, syntax, notation, axiom, sorry.
-/
import Derived.Test.YtheojhajckcdlaaGreatDoorRows
import GoSem.ClaimSeven
namespace Go.Proofs.YtheojhajckcdlaaGreatDoor
namespace Rows

/-- THE TIED CARD OF 'noontidetop.TopShifted'. -/
def topShiftedCard : Claim7 := { stood := { row := topShiftedRow, standIns := [], harness := (true, "f276ce79d3399ea7f7799d4bf4942f0c72766935ff19bbfdc2b17fbe0527df68"), looks := false }, kinds := [], alts := [], laidByText := true, laidKinds := [.data, .data, .pinned], laidTests := true, laidLooks := .later }
def TopShiftedCardSaid : Prop := Claim7.holds Tryz.pinned (.plain (OpenSpec.ofChange topShiftedSpec)) topShiftedCard

/-- THE SECOND FORM's CARD OF 'noontidetop.TopShifted'. -/
def topShiftedUptoCard : Claim7 := { stood := { row := topShiftedUptoRow, standIns := [], harness := (true, "f276ce79d3399ea7f7799d4bf4942f0c72766935ff19bbfdc2b17fbe0527df68"), looks := false }, kinds := [], alts := [], laidByText := true, laidKinds := [.data, .data, .pinned], laidTests := true, laidLooks := .later }
def TopShiftedUptoCardSaid : Prop := Claim7.holds Tryz.pinned (.plain (OpenSpec.upto topShiftedSpec)) topShiftedUptoCard
end Rows
end Go.Proofs.YtheojhajckcdlaaGreatDoor
