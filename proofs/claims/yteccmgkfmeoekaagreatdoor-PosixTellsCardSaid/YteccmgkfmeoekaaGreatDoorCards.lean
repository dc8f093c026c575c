/-
  DERIVED. GIVEN WITH THE SEED: THE CARDS: each row of YteccmgkfmeoekaaGreatDoorRows.lean that lists a variable, with what it lists TIED to the program's text (the seventh form; the later family's looks); each row that meets fmt, with fmt's text TOLD by the authors' own Lean function (tested against real Go, not proved from fmt's source: count such statements apart). THE CARD IS WHAT COUNTS. Prove the row's statement (the work); the ties are given (YteccmgkfmeoekaaGreatDoorTie.lean); close each card by the builder's one call (the guide's Derived/Test/ToyasCard.lean, 'card_holds'). Laid BY PROGRAM, IN A SANDBOX (cutbox-door.mjs). By AI agents, Wed Nov 11 2026. No macro, syntax, notation, axiom, sorry.
-/
import Derived.Test.YteccmgkfmeoekaaGreatDoorRows
import GoSem.ClaimSeven
namespace Go.Proofs.YteccmgkfmeoekaaGreatDoor
namespace Rows

/-- THE TIED CARD OF 'noontidelaw53.LeapTells'. -/
def leapTellsCard : Claim7 := { stood := { row := leapTellsRow, standIns := [], harness := (true, "cd4f0fadee9cd8a31fc5162e061c548b857319775e6f54c30bd03268bff1c596"), looks := true }, kinds := [], alts := [], laidByText := true, laidKinds := [.data, .data, .mapped, .pinned], laidTests := true, laidLooks := .later }
def LeapTellsCardSaid : Prop := Claim7.holds Tryz.pinned (.plain (OpenSpec.ofChange leapTellsSpec)) leapTellsCard

/-- THE TIED CARD OF 'noontidelaw49.PosixTells'. -/
def posixTellsCard : Claim7 := { stood := { row := posixTellsRow, standIns := [], harness := (true, "cd4f0fadee9cd8a31fc5162e061c548b857319775e6f54c30bd03268bff1c596"), looks := true }, kinds := [], alts := [], laidByText := true, laidKinds := [.data, .wider, .pinned], laidTests := true, laidLooks := .later }
def PosixTellsCardSaid : Prop := Claim7.holds Tryz.pinned (.plain (OpenSpec.ofChange posixTellsSpec)) posixTellsCard

/-- THE SECOND FORM's CARD OF 'noontidelaw53.LeapTells'. -/
def leapTellsUptoCard : Claim7 := { stood := { row := leapTellsUptoRow, standIns := [], harness := (true, "cd4f0fadee9cd8a31fc5162e061c548b857319775e6f54c30bd03268bff1c596"), looks := true }, kinds := [], alts := [], laidByText := true, laidKinds := [.data, .data, .mapped, .pinned], laidTests := true, laidLooks := .later }
def LeapTellsUptoCardSaid : Prop := Claim7.holds Tryz.pinned (.plain (OpenSpec.upto leapTellsSpec)) leapTellsUptoCard

/-- THE SECOND FORM's CARD OF 'noontidelaw49.PosixTells'. -/
def posixTellsUptoCard : Claim7 := { stood := { row := posixTellsUptoRow, standIns := [], harness := (true, "cd4f0fadee9cd8a31fc5162e061c548b857319775e6f54c30bd03268bff1c596"), looks := true }, kinds := [], alts := [], laidByText := true, laidKinds := [.data, .wider, .pinned], laidTests := true, laidLooks := .later }
def PosixTellsUptoCardSaid : Prop := Claim7.holds Tryz.pinned (.plain (OpenSpec.upto posixTellsSpec)) posixTellsUptoCard
end Rows
end Go.Proofs.YteccmgkfmeoekaaGreatDoor
