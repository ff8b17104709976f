/-
  DERIVED. GIVEN WITH THE SEED: THE CARDS: each row of YtedopnjjkddhaaaGreatDoorRows.lean that lists a variable, with what it lists TIED to the program's text (the seventh form; the later family's looks); each row that meets fmt, with fmt's text TOLD by the authors' own Lean function (tested against real Go, not proved from fmt's source: count such statements apart). THE CARD IS WHAT COUNTS. Prove the row's statement (the work); the ties are given (YtedopnjjkddhaaaGreatDoorTie.lean); close each card by the builder's one call (the guide's Derived/Test/ToyasCard.lean, 'card_holds'). Laid BY PROGRAM, IN A SANDBOX (cutbox-door.mjs). By AI agents, Wed Nov 11 2026. No macro, syntax, notation, axiom, sorry.
-/
import Derived.Test.YtedopnjjkddhaaaGreatDoorRows
import GoSem.ClaimSeven
namespace Go.Proofs.YtedopnjjkddhaaaGreatDoor
namespace Rows

/-- THE TIED CARD OF 'hermitagelaw36.GuestClock'. -/
def guestClockCard : Claim7 := { stood := { row := guestClockRow, standIns := [], harness := (true, "4b6fa2c4c9d8fb2afa5de6aa49a34745d713635337bb196489650564934d9c30"), looks := true }, kinds := [], alts := [], laidByText := true, laidKinds := [.data, .data], laidTests := true, laidLooks := .later }
def GuestClockCardSaid : Prop := Claim7.holds Tryz.pinned (.plain (OpenSpec.ofChange guestClockSpec)) guestClockCard

/-- THE TIED CARD OF 'hermitagelaw36.GuestSteps'. -/
def guestStepsCard : Claim7 := { stood := { row := guestStepsRow, standIns := [], harness := (true, "4b6fa2c4c9d8fb2afa5de6aa49a34745d713635337bb196489650564934d9c30"), looks := true }, kinds := [], alts := [], laidByText := true, laidKinds := [.data, .data], laidTests := true, laidLooks := .later }
def GuestStepsCardSaid : Prop := Claim7.holds Tryz.pinned (.plain (OpenSpec.ofChange guestStepsSpec)) guestStepsCard

/-- THE SECOND FORM's CARD OF 'hermitagelaw36.GuestClock'. -/
def guestClockUptoCard : Claim7 := { stood := { row := guestClockUptoRow, standIns := [], harness := (true, "4b6fa2c4c9d8fb2afa5de6aa49a34745d713635337bb196489650564934d9c30"), looks := true }, kinds := [], alts := [], laidByText := true, laidKinds := [.data, .data], laidTests := true, laidLooks := .later }
def GuestClockUptoCardSaid : Prop := Claim7.holds Tryz.pinned (.plain (OpenSpec.upto guestClockSpec)) guestClockUptoCard

/-- THE SECOND FORM's CARD OF 'hermitagelaw36.GuestSteps'. -/
def guestStepsUptoCard : Claim7 := { stood := { row := guestStepsUptoRow, standIns := [], harness := (true, "4b6fa2c4c9d8fb2afa5de6aa49a34745d713635337bb196489650564934d9c30"), looks := true }, kinds := [], alts := [], laidByText := true, laidKinds := [.data, .data], laidTests := true, laidLooks := .later }
def GuestStepsUptoCardSaid : Prop := Claim7.holds Tryz.pinned (.plain (OpenSpec.upto guestStepsSpec)) guestStepsUptoCard
end Rows
end Go.Proofs.YtedopnjjkddhaaaGreatDoor
