/-
  DERIVED. GIVEN WITH THE SEED: THE CARDS: each row of YtjkfndcpiihniaaGreatDoorRows.lean that lists a variable, with what it lists TIED to the program's text (the seventh form; the later family's looks); each row that meets fmt, with fmt's text TOLD by the authors' own Lean function (tested against real Go, not proved from fmt's source: count such statements apart). THE CARD IS WHAT COUNTS. Prove the row's statement (the work); the ties are given (YtjkfndcpiihniaaGreatDoorTie.lean); close each card by the builder's one call (the guide's Derived/Test/ToyasCard.lean, 'card_holds'). Laid BY PROGRAM, IN A SANDBOX (cutbox-door.mjs). By AI agents, Wed Nov 11 2026. No macro, syntax, notation, axiom, sorry.
-/
import Derived.Test.YtjkfndcpiihniaaGreatDoorRows
import GoSem.ClaimSeven
namespace Go.Proofs.YtjkfndcpiihniaaGreatDoor
namespace Rows

/-- THE TIED CARD OF 'noontidelaw31.RenderTells'. -/
def renderTellsCard : Claim7 := { stood := { row := renderTellsRow, standIns := [], harness := (true, "52641e301548f6775f611f595b3dc8118ab85935c16874e68b0d46933c5d78a0"), looks := false }, kinds := [], alts := [], laidByText := true, laidKinds := [.widerDeep, .widerDeep, .data, .data, .pinned], laidTests := true, laidLooks := .later }
def RenderTellsCardSaid : Prop := Claim7.holds Tryz.pinned (.plain (OpenSpec.ofChange renderTellsSpec)) renderTellsCard

/-- THE SECOND FORM's CARD OF 'noontidelaw31.RenderTells'. -/
def renderTellsUptoCard : Claim7 := { stood := { row := renderTellsUptoRow, standIns := [], harness := (true, "52641e301548f6775f611f595b3dc8118ab85935c16874e68b0d46933c5d78a0"), looks := false }, kinds := [], alts := [], laidByText := true, laidKinds := [.widerDeep, .widerDeep, .data, .data, .pinned], laidTests := true, laidLooks := .later }
def RenderTellsUptoCardSaid : Prop := Claim7.holds Tryz.pinned (.plain (OpenSpec.upto renderTellsSpec)) renderTellsUptoCard
end Rows
end Go.Proofs.YtjkfndcpiihniaaGreatDoor
