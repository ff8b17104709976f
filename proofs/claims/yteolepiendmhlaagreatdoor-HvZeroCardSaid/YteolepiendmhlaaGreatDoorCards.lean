/-
  DERIVED. GIVEN WITH THE SEED: THE CARDS: each row of YteolepiendmhlaaGreatDoorRows.lean that lists a variable, with what it lists TIED to the program's text (the seventh form; the later family's looks); each row that meets fmt, with fmt's text TOLD by the authors' own Lean function (tested against real Go, not proved from fmt's source: count such statements apart). THE CARD IS WHAT COUNTS. Prove the row's statement (the work); the ties are given (YteolepiendmhlaaGreatDoorTie.lean); close each card by the builder's one call (the guide's Derived/Test/ToyasCard.lean, 'card_holds'). Laid BY PROGRAM, IN A SANDBOX (cutbox-door.mjs). By AI agents, Wed Nov 11 2026. No macro, syntax, notation, axiom, sorry.
-/
import Derived.Test.YteolepiendmhlaaGreatDoorRows
import GoSem.ClaimSeven
namespace Go.Proofs.YteolepiendmhlaaGreatDoor
namespace Rows

/-- THE TIED CARD OF 'hermitagelaw36.GuestZero'. -/
def guestZeroCard : Claim7 := { stood := { row := guestZeroRow, standIns := [], harness := (true, "536b982829493d43c30bfbccb816d864d9abe1b7af4cefbc15e839b9e983037a"), looks := true }, kinds := [], alts := [], laidByText := true, laidKinds := [.data, .data], laidTests := true, laidLooks := .later }
def GuestZeroCardSaid : Prop := Claim7.holds Tryz.pinned (.plain (OpenSpec.ofChange guestZeroSpec)) guestZeroCard

/-- THE TIED CARD OF 'hermitagelaw38.HvZero'. -/
def hvZeroCard : Claim7 := { stood := { row := hvZeroRow, standIns := [], harness := (true, "536b982829493d43c30bfbccb816d864d9abe1b7af4cefbc15e839b9e983037a"), looks := true }, kinds := [], alts := [], laidByText := true, laidKinds := [.data, .data], laidTests := true, laidLooks := .later }
def HvZeroCardSaid : Prop := Claim7.holds Tryz.pinned (.plain (OpenSpec.ofChange hvZeroSpec)) hvZeroCard

/-- THE SECOND FORM's CARD OF 'hermitagelaw36.GuestZero'. -/
def guestZeroUptoCard : Claim7 := { stood := { row := guestZeroUptoRow, standIns := [], harness := (true, "536b982829493d43c30bfbccb816d864d9abe1b7af4cefbc15e839b9e983037a"), looks := true }, kinds := [], alts := [], laidByText := true, laidKinds := [.data, .data], laidTests := true, laidLooks := .later }
def GuestZeroUptoCardSaid : Prop := Claim7.holds Tryz.pinned (.plain (OpenSpec.upto guestZeroSpec)) guestZeroUptoCard

/-- THE SECOND FORM's CARD OF 'hermitagelaw38.HvZero'. -/
def hvZeroUptoCard : Claim7 := { stood := { row := hvZeroUptoRow, standIns := [], harness := (true, "536b982829493d43c30bfbccb816d864d9abe1b7af4cefbc15e839b9e983037a"), looks := true }, kinds := [], alts := [], laidByText := true, laidKinds := [.data, .data], laidTests := true, laidLooks := .later }
def HvZeroUptoCardSaid : Prop := Claim7.holds Tryz.pinned (.plain (OpenSpec.upto hvZeroSpec)) hvZeroUptoCard
end Rows
end Go.Proofs.YteolepiendmhlaaGreatDoor
