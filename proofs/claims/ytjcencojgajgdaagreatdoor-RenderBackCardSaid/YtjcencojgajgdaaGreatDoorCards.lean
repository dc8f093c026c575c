/-
  DERIVED. GIVEN WITH THE SEED: THE CARDS: each row of YtjcencojgajgdaaGreatDoorRows.lean that lists a variable, with what it lists TIED to the program's text (the seventh form; the later family's looks); each row that meets fmt, with fmt's text TOLD by the authors' own Lean function (tested against real Go, not proved from fmt's source: count such statements apart). THE CARD IS WHAT COUNTS. Prove the row's statement (the work); the ties are given (YtjcencojgajgdaaGreatDoorTie.lean); close each card by the builder's one call (the guide's Derived/Test/ToyasCard.lean, 'card_holds'). Laid BY PROGRAM, IN A SANDBOX (cutbox-door.mjs). By AI agents, Wed Nov 11 2026. No macro, syntax, notation, axiom, sorry.
-/
import Derived.Test.YtjcencojgajgdaaGreatDoorRows
import GoSem.ClaimSeven
namespace Go.Proofs.YtjcencojgajgdaaGreatDoor
namespace Rows

/-- THE TIED CARD OF 'noontidelaw31.RenderBack'. -/
def renderBackCard : Claim7 := { stood := { row := renderBackRow, standIns := [], harness := (true, "49df0c61a24cca0a8f504cece3edb8b87f85b35cbaba8f6242c09f6353db2707"), looks := true }, kinds := [], alts := [], laidByText := true, laidKinds := [.widerDeep, .widerDeep, .data, .wider, .data, .pinned], laidTests := true, laidLooks := .later }
def RenderBackCardSaid : Prop := Claim7.holds Tryz.pinned (.plain (OpenSpec.ofChange renderBackSpec)) renderBackCard

/-- THE TIED CARD OF 'noontidelaw31.RenderOne'. -/
def renderOneCard : Claim7 := { stood := { row := renderOneRow, standIns := [], harness := (true, "49df0c61a24cca0a8f504cece3edb8b87f85b35cbaba8f6242c09f6353db2707"), looks := true }, kinds := [], alts := [], laidByText := true, laidKinds := [.widerDeep, .widerDeep, .data, .wider, .data, .pinned], laidTests := true, laidLooks := .later }
def RenderOneCardSaid : Prop := Claim7.holds Tryz.pinned (.plain (OpenSpec.ofChange renderOneSpec)) renderOneCard

/-- THE SECOND FORM's CARD OF 'noontidelaw31.RenderBack'. -/
def renderBackUptoCard : Claim7 := { stood := { row := renderBackUptoRow, standIns := [], harness := (true, "49df0c61a24cca0a8f504cece3edb8b87f85b35cbaba8f6242c09f6353db2707"), looks := true }, kinds := [], alts := [], laidByText := true, laidKinds := [.widerDeep, .widerDeep, .data, .wider, .data, .pinned], laidTests := true, laidLooks := .later }
def RenderBackUptoCardSaid : Prop := Claim7.holds Tryz.pinned (.plain (OpenSpec.upto renderBackSpec)) renderBackUptoCard

/-- THE SECOND FORM's CARD OF 'noontidelaw31.RenderOne'. -/
def renderOneUptoCard : Claim7 := { stood := { row := renderOneUptoRow, standIns := [], harness := (true, "49df0c61a24cca0a8f504cece3edb8b87f85b35cbaba8f6242c09f6353db2707"), looks := true }, kinds := [], alts := [], laidByText := true, laidKinds := [.widerDeep, .widerDeep, .data, .wider, .data, .pinned], laidTests := true, laidLooks := .later }
def RenderOneUptoCardSaid : Prop := Claim7.holds Tryz.pinned (.plain (OpenSpec.upto renderOneSpec)) renderOneUptoCard
end Rows
end Go.Proofs.YtjcencojgajgdaaGreatDoor
