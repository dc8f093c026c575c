/-
  DERIVED. GIVEN WITH THE SEED: THE CARDS: each row of YtcmockbdkppglaaDoorRows.lean that lists a variable, with what it lists TIED to the program's text (the seventh form; the later family's looks); each row that meets fmt, with fmt's text TOLD by the authors' own Lean function (tested against real Go, not proved from fmt's source: count such statements apart). THE CARD IS WHAT COUNTS. Prove the row's statement (the work); the ties are given (YtcmockbdkppglaaDoorTie.lean); close each card by the builder's one call (the guide's Derived/Test/ToyasCard.lean, 'card_holds'). Laid BY PROGRAM, IN A SANDBOX (cutbox-door.mjs). By AI agents, Wed Nov 11 2026. No macro, syntax, notation, axiom, sorry.
-/
import Derived.Test.YtcmockbdkppglaaDoorRows
import GoSem.ClaimSeven
namespace Go.Proofs.YtcmockbdkppglaaDoor
namespace Rows

/-- THE TIED CARD OF 'noontidelaw53.LeapBack'. -/
def leapBackCard : Claim7 := { stood := { row := leapBackRow, standIns := [], harness := (true, "a94cd1aec90d123238093ec7998de368d3e913948bc70091605dfa1896ce35c0"), looks := true }, kinds := [], alts := [], laidByText := true, laidKinds := [.data, .data, .mapped, .pinned], laidTests := true, laidLooks := .later }
def LeapBackCardSaid : Prop := Claim7.holds Tryd.pinned (.plain (OpenSpec.ofChange leapBackSpec)) leapBackCard

/-- THE SECOND FORM's CARD OF 'noontidelaw53.LeapBack'. -/
def leapBackUptoCard : Claim7 := { stood := { row := leapBackUptoRow, standIns := [], harness := (true, "a94cd1aec90d123238093ec7998de368d3e913948bc70091605dfa1896ce35c0"), looks := true }, kinds := [], alts := [], laidByText := true, laidKinds := [.data, .data, .mapped, .pinned], laidTests := true, laidLooks := .later }
def LeapBackUptoCardSaid : Prop := Claim7.holds Tryd.pinned (.plain (OpenSpec.upto leapBackSpec)) leapBackUptoCard
end Rows
end Go.Proofs.YtcmockbdkppglaaDoor
