/-
  DERIVED. GIVEN WITH THE SEED: THE CARDS: each row of YtofillmoflhijaaGreatDoorRows.lean that lists a variable, with what it lists TIED to the program's text (the seventh form; the later family's looks); each row that meets fmt, with fmt's text TOLD by the authors' own Lean function (tested against real Go, not proved from fmt's source: count such statements apart). THE CARD IS WHAT COUNTS. Prove the row's statement (the work); the ties are given (YtofillmoflhijaaGreatDoorTie.lean); close each card by the builder's one call (the guide's Derived/Test/ToyasCard.lean, 'card_holds'). Laid BY PROGRAM, IN A SANDBOX (cutbox-door.mjs). By AI agents, Wed Nov 11 2026. No macro, syntax, notation, axiom, sorry.
-/
import Derived.Test.YtofillmoflhijaaGreatDoorRows
import GoSem.ClaimSeven
namespace Go.Proofs.YtofillmoflhijaaGreatDoor
namespace Rows

/-- THE TIED CARD OF 'hermitagelaw36.GuestMade'. -/
def guestMadeCard : Claim7 := { stood := { row := guestMadeRow, standIns := [], harness := (true, "8c91c3a090461b180219bd1396764f21690dee9b0329be1f932b3dff7287588a"), looks := true }, kinds := [], alts := [], laidByText := true, laidKinds := [.data, .data], laidTests := true, laidLooks := .later }
def GuestMadeCardSaid : Prop := Claim7.holds Tryz.pinned (.plain (OpenSpec.ofChange guestMadeSpec)) guestMadeCard

/-- THE TIED CARD OF 'hermitagelaw36.GuestSteps'. -/
def guestStepsCard : Claim7 := { stood := { row := guestStepsRow, standIns := [], harness := (true, "8c91c3a090461b180219bd1396764f21690dee9b0329be1f932b3dff7287588a"), looks := true }, kinds := [], alts := [], laidByText := true, laidKinds := [.data, .data], laidTests := true, laidLooks := .later }
def GuestStepsCardSaid : Prop := Claim7.holds Tryz.pinned (.plain (OpenSpec.ofChange guestStepsSpec)) guestStepsCard

/-- THE SECOND FORM's CARD OF 'hermitagelaw36.GuestMade'. -/
def guestMadeUptoCard : Claim7 := { stood := { row := guestMadeUptoRow, standIns := [], harness := (true, "8c91c3a090461b180219bd1396764f21690dee9b0329be1f932b3dff7287588a"), looks := true }, kinds := [], alts := [], laidByText := true, laidKinds := [.data, .data], laidTests := true, laidLooks := .later }
def GuestMadeUptoCardSaid : Prop := Claim7.holds Tryz.pinned (.plain (OpenSpec.upto guestMadeSpec)) guestMadeUptoCard

/-- THE SECOND FORM's CARD OF 'hermitagelaw36.GuestSteps'. -/
def guestStepsUptoCard : Claim7 := { stood := { row := guestStepsUptoRow, standIns := [], harness := (true, "8c91c3a090461b180219bd1396764f21690dee9b0329be1f932b3dff7287588a"), looks := true }, kinds := [], alts := [], laidByText := true, laidKinds := [.data, .data], laidTests := true, laidLooks := .later }
def GuestStepsUptoCardSaid : Prop := Claim7.holds Tryz.pinned (.plain (OpenSpec.upto guestStepsSpec)) guestStepsUptoCard
end Rows
end Go.Proofs.YtofillmoflhijaaGreatDoor
