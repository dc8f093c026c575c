/-
  DERIVED. GIVEN WITH THE SEED: THE CARDS: each row of YtcmockbdkppglaaGreatDoorRows.lean that lists a variable, with what it lists TIED to the program's text (the seventh form; the later family's looks); each row that meets fmt, with fmt's text TOLD by the authors' own Lean function (tested against real Go, not proved from fmt's source: count such statements apart). THE CARD IS WHAT COUNTS. Prove the row's statement (the work); the ties are given (YtcmockbdkppglaaGreatDoorTie.lean); close each card by the builder's one call (the guide's Derived/Test/ToyasCard.lean, 'card_holds'). Laid BY PROGRAM, IN A SANDBOX (cutbox-door.mjs). By AI agents, Wed Nov 11 2026. No macro, syntax, notation, axiom, sorry.
-/
import Derived.Test.YtcmockbdkppglaaGreatDoorRows
import GoSem.ClaimSeven
namespace Go.Proofs.YtcmockbdkppglaaGreatDoor
namespace Rows

/-- THE TIED CARD OF 'noontidelaw53.LeapTells'. -/
def leapTellsCard : Claim7 := { stood := { row := leapTellsRow, standIns := [], harness := (true, "249e41625a0e3ea0edfeaa5b578d51432eff3103bac0fc50703ea31753b4b2b0"), looks := true }, kinds := [], alts := [], laidByText := true, laidKinds := [.data, .data, .mapped, .pinned], laidTests := true, laidLooks := .later }
def LeapTellsCardSaid : Prop := Claim7.holds Tryz.pinned (.plain (OpenSpec.ofChange leapTellsSpec)) leapTellsCard

/-- THE SECOND FORM's CARD OF 'noontidelaw53.LeapTells'. -/
def leapTellsUptoCard : Claim7 := { stood := { row := leapTellsUptoRow, standIns := [], harness := (true, "249e41625a0e3ea0edfeaa5b578d51432eff3103bac0fc50703ea31753b4b2b0"), looks := true }, kinds := [], alts := [], laidByText := true, laidKinds := [.data, .data, .mapped, .pinned], laidTests := true, laidLooks := .later }
def LeapTellsUptoCardSaid : Prop := Claim7.holds Tryz.pinned (.plain (OpenSpec.upto leapTellsSpec)) leapTellsUptoCard
end Rows
end Go.Proofs.YtcmockbdkppglaaGreatDoor
