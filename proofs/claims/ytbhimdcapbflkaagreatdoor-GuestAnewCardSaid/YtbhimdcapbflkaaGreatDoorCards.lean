/-
  DERIVED. GIVEN WITH THE SEED: THE CARDS: each row of YtbhimdcapbflkaaGreatDoorRows.lean that lists a variable, with what it lists TIED to the program's text (the seventh form; the later family's looks); each row that meets fmt, with fmt's text TOLD by the authors' own Lean function (tested against real Go, not proved from fmt's source: count such statements apart). THE CARD IS WHAT COUNTS. Prove the row's statement (the work); the ties are given (YtbhimdcapbflkaaGreatDoorTie.lean); close each card by the builder's one call (the guide's Derived/Test/ToyasCard.lean, 'card_holds'). Laid BY PROGRAM, IN A SANDBOX (cutbox-door.mjs). By AI agents, Wed Nov 11 2026. No macro, syntax, notation, axiom, sorry.
-/
import Derived.Test.YtbhimdcapbflkaaGreatDoorRows
import GoSem.ClaimSeven
namespace Go.Proofs.YtbhimdcapbflkaaGreatDoor
namespace Rows

/-- THE TIED CARD OF 'hermitagelaw36.GuestOwn'. -/
def guestOwnCard : Claim7 := { stood := { row := guestOwnRow, standIns := [], harness := (true, "b2e9c30d59fbbb777ea1589a6165f33dae2723e43d2cfd0e8d24f284f1e02bf1"), looks := true }, kinds := [], alts := [], laidByText := true, laidKinds := [.data, .data], laidTests := true, laidLooks := .later }
def GuestOwnCardSaid : Prop := Claim7.holds Tryz.pinned (.plain (OpenSpec.ofChange guestOwnSpec)) guestOwnCard

/-- THE TIED CARD OF 'hermitagelaw36.GuestAnew'. -/
def guestAnewCard : Claim7 := { stood := { row := guestAnewRow, standIns := [], harness := (true, "b2e9c30d59fbbb777ea1589a6165f33dae2723e43d2cfd0e8d24f284f1e02bf1"), looks := true }, kinds := [], alts := [], laidByText := true, laidKinds := [.data, .data], laidTests := true, laidLooks := .later }
def GuestAnewCardSaid : Prop := Claim7.holds Tryz.pinned (.plain (OpenSpec.ofChange guestAnewSpec)) guestAnewCard

/-- THE SECOND FORM's CARD OF 'hermitagelaw36.GuestOwn'. -/
def guestOwnUptoCard : Claim7 := { stood := { row := guestOwnUptoRow, standIns := [], harness := (true, "b2e9c30d59fbbb777ea1589a6165f33dae2723e43d2cfd0e8d24f284f1e02bf1"), looks := true }, kinds := [], alts := [], laidByText := true, laidKinds := [.data, .data], laidTests := true, laidLooks := .later }
def GuestOwnUptoCardSaid : Prop := Claim7.holds Tryz.pinned (.plain (OpenSpec.upto guestOwnSpec)) guestOwnUptoCard

/-- THE SECOND FORM's CARD OF 'hermitagelaw36.GuestAnew'. -/
def guestAnewUptoCard : Claim7 := { stood := { row := guestAnewUptoRow, standIns := [], harness := (true, "b2e9c30d59fbbb777ea1589a6165f33dae2723e43d2cfd0e8d24f284f1e02bf1"), looks := true }, kinds := [], alts := [], laidByText := true, laidKinds := [.data, .data], laidTests := true, laidLooks := .later }
def GuestAnewUptoCardSaid : Prop := Claim7.holds Tryz.pinned (.plain (OpenSpec.upto guestAnewSpec)) guestAnewUptoCard
end Rows
end Go.Proofs.YtbhimdcapbflkaaGreatDoor
