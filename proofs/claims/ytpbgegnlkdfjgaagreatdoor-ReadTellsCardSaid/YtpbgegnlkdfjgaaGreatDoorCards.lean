/-
  DERIVED. GIVEN WITH THE SEED: THE CARDS: each row of YtpbgegnlkdfjgaaGreatDoorRows.lean that lists a variable, with what it lists TIED to the program's text (the seventh form; the later family's looks); each row that meets fmt, with fmt's text TOLD by the authors' own Lean function (tested against real Go, not proved from fmt's source: count such statements apart). THE CARD IS WHAT COUNTS. Prove the row's statement (the work); the ties are given (YtpbgegnlkdfjgaaGreatDoorTie.lean); close each card by the builder's one call (the guide's Derived/Test/ToyasCard.lean, 'card_holds'). Laid BY PROGRAM, IN A SANDBOX (cutbox-door.mjs). By AI agents, Wed Nov 11 2026. No macro, syntax, notation, axiom, sorry.
-/
import Derived.Test.YtpbgegnlkdfjgaaGreatDoorRows
import GoSem.ClaimSeven
namespace Go.Proofs.YtpbgegnlkdfjgaaGreatDoor
namespace Rows

/-- THE TIED CARD OF 'noontidelaw24.ReadTells'. -/
def readTellsCard : Claim7 := { stood := { row := readTellsRow, standIns := [], harness := (true, "907bf4c3320b90e37ae31842465ca161f3bea614e99b3039cb04e12ab16c6165"), looks := true }, kinds := [], alts := [], laidByText := true, laidKinds := [.widerDeep, .widerDeep, .data, .wider, .data, .pinned], laidTests := true, laidLooks := .later }
def ReadTellsCardSaid : Prop := Claim7.holds Tryz.pinned (.plain (OpenSpec.ofChange readTellsSpec)) readTellsCard

/-- THE SECOND FORM's CARD OF 'noontidelaw24.ReadTells'. -/
def readTellsUptoCard : Claim7 := { stood := { row := readTellsUptoRow, standIns := [], harness := (true, "907bf4c3320b90e37ae31842465ca161f3bea614e99b3039cb04e12ab16c6165"), looks := true }, kinds := [], alts := [], laidByText := true, laidKinds := [.widerDeep, .widerDeep, .data, .wider, .data, .pinned], laidTests := true, laidLooks := .later }
def ReadTellsUptoCardSaid : Prop := Claim7.holds Tryz.pinned (.plain (OpenSpec.upto readTellsSpec)) readTellsUptoCard
end Rows
end Go.Proofs.YtpbgegnlkdfjgaaGreatDoor
