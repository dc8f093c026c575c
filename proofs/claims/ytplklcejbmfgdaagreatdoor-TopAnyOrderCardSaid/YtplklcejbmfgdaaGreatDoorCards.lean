/-
  DERIVED. GIVEN WITH THE SEED: THE CARDS: each row of YtplklcejbmfgdaaGreatDoorRows.lean that lists a variable, with what it lists TIED to the program's text (the seventh form; the later family's looks); each row that meets fmt, with fmt's text TOLD by the authors' own Lean function (tested against real Go, not proved from fmt's source: count such statements apart). THE CARD IS WHAT COUNTS. Prove the row's statement (the work); the ties are given (YtplklcejbmfgdaaGreatDoorTie.lean); close each card by the builder's one call (the guide's Derived/Test/ToyasCard.lean, 'card_holds'). Laid BY PROGRAM, IN A SANDBOX (cutbox-door.mjs). By AI agents, Wed Nov 11 2026. No macro, syntax, notation, axiom, sorry.
-/
import Derived.Test.YtplklcejbmfgdaaGreatDoorRows
import GoSem.ClaimSeven
namespace Go.Proofs.YtplklcejbmfgdaaGreatDoor
namespace Rows

/-- THE TIED CARD OF 'noontidelaw24.ReadNothing'. -/
def readNothingCard : Claim7 := { stood := { row := readNothingRow, standIns := [], harness := (true, "b477a08586d0e322a2e291df9dd098dc2aaff4addce15ff4556559944db3dbff"), looks := true }, kinds := [], alts := [], laidByText := true, laidKinds := [.widerDeep, .widerDeep, .data, .wider, .data, .pinned], laidTests := true, laidLooks := .later }
def ReadNothingCardSaid : Prop := Claim7.holds Tryz.pinned (.plain (OpenSpec.ofChange readNothingSpec)) readNothingCard

/-- THE TIED CARD OF 'noontidelaw24.ReadRight'. -/
def readRightCard : Claim7 := { stood := { row := readRightRow, standIns := [], harness := (true, "b477a08586d0e322a2e291df9dd098dc2aaff4addce15ff4556559944db3dbff"), looks := true }, kinds := [], alts := [], laidByText := true, laidKinds := [.widerDeep, .widerDeep, .data, .wider, .data, .pinned], laidTests := true, laidLooks := .later }
def ReadRightCardSaid : Prop := Claim7.holds Tryz.pinned (.plain (OpenSpec.ofChange readRightSpec)) readRightCard

/-- THE TIED CARD OF 'noontidelaw31.RenderBack'. -/
def renderBackCard : Claim7 := { stood := { row := renderBackRow, standIns := [], harness := (true, "b477a08586d0e322a2e291df9dd098dc2aaff4addce15ff4556559944db3dbff"), looks := true }, kinds := [], alts := [], laidByText := true, laidKinds := [.widerDeep, .widerDeep, .data, .wider, .data, .pinned], laidTests := true, laidLooks := .later }
def RenderBackCardSaid : Prop := Claim7.holds Tryz.pinned (.plain (OpenSpec.ofChange renderBackSpec)) renderBackCard

/-- THE TIED CARD OF 'noontidelaw31.RenderOne'. -/
def renderOneCard : Claim7 := { stood := { row := renderOneRow, standIns := [], harness := (true, "b477a08586d0e322a2e291df9dd098dc2aaff4addce15ff4556559944db3dbff"), looks := true }, kinds := [], alts := [], laidByText := true, laidKinds := [.widerDeep, .widerDeep, .data, .wider, .data, .pinned], laidTests := true, laidLooks := .later }
def RenderOneCardSaid : Prop := Claim7.holds Tryz.pinned (.plain (OpenSpec.ofChange renderOneSpec)) renderOneCard

/-- THE TIED CARD OF 'noontidetop.TopAnyOrder'. -/
def topAnyOrderCard : Claim7 := { stood := { row := topAnyOrderRow, standIns := [], harness := (true, "b477a08586d0e322a2e291df9dd098dc2aaff4addce15ff4556559944db3dbff"), looks := true }, kinds := [], alts := [], laidByText := true, laidKinds := [.widerDeep, .widerDeep, .data, .wider, .data, .pinned], laidTests := true, laidLooks := .later }
def TopAnyOrderCardSaid : Prop := Claim7.holds Tryz.pinned (.plain (OpenSpec.ofChange topAnyOrderSpec)) topAnyOrderCard

/-- THE SECOND FORM's CARD OF 'noontidelaw24.ReadNothing'. -/
def readNothingUptoCard : Claim7 := { stood := { row := readNothingUptoRow, standIns := [], harness := (true, "b477a08586d0e322a2e291df9dd098dc2aaff4addce15ff4556559944db3dbff"), looks := true }, kinds := [], alts := [], laidByText := true, laidKinds := [.widerDeep, .widerDeep, .data, .wider, .data, .pinned], laidTests := true, laidLooks := .later }
def ReadNothingUptoCardSaid : Prop := Claim7.holds Tryz.pinned (.plain (OpenSpec.upto readNothingSpec)) readNothingUptoCard

/-- THE SECOND FORM's CARD OF 'noontidelaw24.ReadRight'. -/
def readRightUptoCard : Claim7 := { stood := { row := readRightUptoRow, standIns := [], harness := (true, "b477a08586d0e322a2e291df9dd098dc2aaff4addce15ff4556559944db3dbff"), looks := true }, kinds := [], alts := [], laidByText := true, laidKinds := [.widerDeep, .widerDeep, .data, .wider, .data, .pinned], laidTests := true, laidLooks := .later }
def ReadRightUptoCardSaid : Prop := Claim7.holds Tryz.pinned (.plain (OpenSpec.upto readRightSpec)) readRightUptoCard

/-- THE SECOND FORM's CARD OF 'noontidelaw31.RenderBack'. -/
def renderBackUptoCard : Claim7 := { stood := { row := renderBackUptoRow, standIns := [], harness := (true, "b477a08586d0e322a2e291df9dd098dc2aaff4addce15ff4556559944db3dbff"), looks := true }, kinds := [], alts := [], laidByText := true, laidKinds := [.widerDeep, .widerDeep, .data, .wider, .data, .pinned], laidTests := true, laidLooks := .later }
def RenderBackUptoCardSaid : Prop := Claim7.holds Tryz.pinned (.plain (OpenSpec.upto renderBackSpec)) renderBackUptoCard

/-- THE SECOND FORM's CARD OF 'noontidelaw31.RenderOne'. -/
def renderOneUptoCard : Claim7 := { stood := { row := renderOneUptoRow, standIns := [], harness := (true, "b477a08586d0e322a2e291df9dd098dc2aaff4addce15ff4556559944db3dbff"), looks := true }, kinds := [], alts := [], laidByText := true, laidKinds := [.widerDeep, .widerDeep, .data, .wider, .data, .pinned], laidTests := true, laidLooks := .later }
def RenderOneUptoCardSaid : Prop := Claim7.holds Tryz.pinned (.plain (OpenSpec.upto renderOneSpec)) renderOneUptoCard

/-- THE SECOND FORM's CARD OF 'noontidetop.TopAnyOrder'. -/
def topAnyOrderUptoCard : Claim7 := { stood := { row := topAnyOrderUptoRow, standIns := [], harness := (true, "b477a08586d0e322a2e291df9dd098dc2aaff4addce15ff4556559944db3dbff"), looks := true }, kinds := [], alts := [], laidByText := true, laidKinds := [.widerDeep, .widerDeep, .data, .wider, .data, .pinned], laidTests := true, laidLooks := .later }
def TopAnyOrderUptoCardSaid : Prop := Claim7.holds Tryz.pinned (.plain (OpenSpec.upto topAnyOrderSpec)) topAnyOrderUptoCard
end Rows
end Go.Proofs.YtplklcejbmfgdaaGreatDoor
