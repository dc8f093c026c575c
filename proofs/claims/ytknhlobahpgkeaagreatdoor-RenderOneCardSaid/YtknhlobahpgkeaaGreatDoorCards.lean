/-
  DERIVED. GIVEN WITH THE SEED: THE CARDS: each row of YtknhlobahpgkeaaGreatDoorRows.lean that lists a variable, with what it lists TIED to the program's text (the seventh form; the later family's looks); each row that meets fmt, with fmt's text TOLD by the authors' own Lean function (tested against real Go, not proved from fmt's source: count such statements apart). THE CARD IS WHAT COUNTS. Prove the row's statement (the work); the ties are given (YtknhlobahpgkeaaGreatDoorTie.lean); close each card by the builder's one call (the guide's Derived/Test/ToyasCard.lean, 'card_holds'). Laid BY PROGRAM, IN A SANDBOX (cutbox-door.mjs). By AI agents, Wed Nov 11 2026. No macro, syntax, notation, axiom, sorry.
-/
import Derived.Test.YtknhlobahpgkeaaGreatDoorRows
import GoSem.ClaimSeven
namespace Go.Proofs.YtknhlobahpgkeaaGreatDoor
namespace Rows

/-- THE TIED CARD OF 'noontidelaw31.RenderOne'. -/
def renderOneCard : Claim7 := { stood := { row := renderOneRow, standIns := [], harness := (true, "acf1937afbc07f2ad36640bd3e1bbfac509d047a52b64bc39f8effabdd7d1029"), looks := true }, kinds := [], alts := [], laidByText := true, laidKinds := [.widerDeep, .widerDeep, .data, .wider, .data, .pinned], laidTests := true, laidLooks := .later }
def RenderOneCardSaid : Prop := Claim7.holds Tryz.pinned (.plain (OpenSpec.ofChange renderOneSpec)) renderOneCard

/-- THE SECOND FORM's CARD OF 'noontidelaw31.RenderOne'. -/
def renderOneUptoCard : Claim7 := { stood := { row := renderOneUptoRow, standIns := [], harness := (true, "acf1937afbc07f2ad36640bd3e1bbfac509d047a52b64bc39f8effabdd7d1029"), looks := true }, kinds := [], alts := [], laidByText := true, laidKinds := [.widerDeep, .widerDeep, .data, .wider, .data, .pinned], laidTests := true, laidLooks := .later }
def RenderOneUptoCardSaid : Prop := Claim7.holds Tryz.pinned (.plain (OpenSpec.upto renderOneSpec)) renderOneUptoCard
end Rows
end Go.Proofs.YtknhlobahpgkeaaGreatDoor
