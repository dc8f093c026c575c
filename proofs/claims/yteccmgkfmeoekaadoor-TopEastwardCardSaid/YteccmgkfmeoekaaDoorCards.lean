/-
  DERIVED. GIVEN WITH THE SEED: THE CARDS: each row of YteccmgkfmeoekaaDoorRows.lean that lists a variable, with what it lists TIED to the program's text (the seventh form; the later family's looks); each row that meets fmt, with fmt's text TOLD by the authors' own Lean function (tested against real Go, not proved from fmt's source: count such statements apart). THE CARD IS WHAT COUNTS. Prove the row's statement (the work); the ties are given (YteccmgkfmeoekaaDoorTie.lean); close each card by the builder's one call (the guide's Derived/Test/ToyasCard.lean, 'card_holds'). Laid BY PROGRAM, IN A SANDBOX (cutbox-door.mjs). By AI agents, Wed Nov 11 2026. No macro, syntax, notation, axiom, sorry.
-/
import Derived.Test.YteccmgkfmeoekaaDoorRows
import GoSem.ClaimSeven
namespace Go.Proofs.YteccmgkfmeoekaaDoor
namespace Rows

/-- THE TIED CARD OF 'noontidetop.TopEastward'. -/
def topEastwardCard : Claim7 := { stood := { row := topEastwardRow, standIns := [], harness := (true, "168ffaddbec2982f210785835c4ba0e8b07a2d60a6f95808a31f4c5fba575167"), looks := true }, kinds := [], alts := [], laidByText := true, laidKinds := [.data, .pinned], laidTests := true, laidLooks := .later }
def TopEastwardCardSaid : Prop := Claim7.holds Tryd.pinned (.plain (OpenSpec.ofChange topEastwardSpec)) topEastwardCard

/-- THE TIED CARD OF 'noontidelaw53.LeapBack'. -/
def leapBackCard : Claim7 := { stood := { row := leapBackRow, standIns := [], harness := (true, "168ffaddbec2982f210785835c4ba0e8b07a2d60a6f95808a31f4c5fba575167"), looks := true }, kinds := [], alts := [], laidByText := true, laidKinds := [.data, .data, .mapped, .pinned], laidTests := true, laidLooks := .later }
def LeapBackCardSaid : Prop := Claim7.holds Tryd.pinned (.plain (OpenSpec.ofChange leapBackSpec)) leapBackCard

/-- THE TIED CARD OF 'noontidelaw49.PosixBack'. -/
def posixBackCard : Claim7 := { stood := { row := posixBackRow, standIns := [], harness := (true, "168ffaddbec2982f210785835c4ba0e8b07a2d60a6f95808a31f4c5fba575167"), looks := true }, kinds := [], alts := [], laidByText := true, laidKinds := [.data, .wider, .pinned], laidTests := true, laidLooks := .later }
def PosixBackCardSaid : Prop := Claim7.holds Tryd.pinned (.plain (OpenSpec.ofChange posixBackSpec)) posixBackCard

/-- THE SECOND FORM's CARD OF 'noontidetop.TopEastward'. -/
def topEastwardUptoCard : Claim7 := { stood := { row := topEastwardUptoRow, standIns := [], harness := (true, "168ffaddbec2982f210785835c4ba0e8b07a2d60a6f95808a31f4c5fba575167"), looks := true }, kinds := [], alts := [], laidByText := true, laidKinds := [.data, .pinned], laidTests := true, laidLooks := .later }
def TopEastwardUptoCardSaid : Prop := Claim7.holds Tryd.pinned (.plain (OpenSpec.upto topEastwardSpec)) topEastwardUptoCard

/-- THE SECOND FORM's CARD OF 'noontidelaw53.LeapBack'. -/
def leapBackUptoCard : Claim7 := { stood := { row := leapBackUptoRow, standIns := [], harness := (true, "168ffaddbec2982f210785835c4ba0e8b07a2d60a6f95808a31f4c5fba575167"), looks := true }, kinds := [], alts := [], laidByText := true, laidKinds := [.data, .data, .mapped, .pinned], laidTests := true, laidLooks := .later }
def LeapBackUptoCardSaid : Prop := Claim7.holds Tryd.pinned (.plain (OpenSpec.upto leapBackSpec)) leapBackUptoCard

/-- THE SECOND FORM's CARD OF 'noontidelaw49.PosixBack'. -/
def posixBackUptoCard : Claim7 := { stood := { row := posixBackUptoRow, standIns := [], harness := (true, "168ffaddbec2982f210785835c4ba0e8b07a2d60a6f95808a31f4c5fba575167"), looks := true }, kinds := [], alts := [], laidByText := true, laidKinds := [.data, .wider, .pinned], laidTests := true, laidLooks := .later }
def PosixBackUptoCardSaid : Prop := Claim7.holds Tryd.pinned (.plain (OpenSpec.upto posixBackSpec)) posixBackUptoCard
end Rows
end Go.Proofs.YteccmgkfmeoekaaDoor
