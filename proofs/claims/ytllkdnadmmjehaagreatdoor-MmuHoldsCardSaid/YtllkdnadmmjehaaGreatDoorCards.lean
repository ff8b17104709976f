/-
  DERIVED. GIVEN WITH THE SEED: THE CARDS: each row of YtllkdnadmmjehaaGreatDoorRows.lean that lists a variable, with what it lists TIED to the program's text (the seventh form; the later family's looks); each row that meets fmt, with fmt's text TOLD by the authors' own Lean function (tested against real Go, not proved from fmt's source: count such statements apart). THE CARD IS WHAT COUNTS. Prove the row's statement (the work); the ties are given (YtllkdnadmmjehaaGreatDoorTie.lean); close each card by the builder's one call (the guide's Derived/Test/ToyasCard.lean, 'card_holds'). Laid BY PROGRAM, IN A SANDBOX (cutbox-door.mjs). By AI agents, Wed Nov 11 2026. No macro, syntax, notation, axiom, sorry.
-/
import Derived.Test.YtllkdnadmmjehaaGreatDoorRows
import GoSem.ClaimSeven
namespace Go.Proofs.YtllkdnadmmjehaaGreatDoor
namespace Rows

/-- THE TIED CARD OF 'hermitagelaw20.MmuSaves'. -/
def mmuSavesCard : Claim7 := { stood := { row := mmuSavesRow, standIns := [], harness := (true, "f45bf6fa29c2d6d7cb6400b96f297ea8dfbff6e0811ed8d092e64190062a9bfe"), looks := true }, kinds := [], alts := [], laidByText := true, laidKinds := [.data], laidTests := true, laidLooks := .later }
def MmuSavesCardSaid : Prop := Claim7.holds Tryz.pinned (.plain (OpenSpec.ofChange mmuSavesSpec)) mmuSavesCard

/-- THE TIED CARD OF 'hermitagelaw20.MmuFinds'. -/
def mmuFindsCard : Claim7 := { stood := { row := mmuFindsRow, standIns := [], harness := (true, "f45bf6fa29c2d6d7cb6400b96f297ea8dfbff6e0811ed8d092e64190062a9bfe"), looks := true }, kinds := [], alts := [], laidByText := true, laidKinds := [.data], laidTests := true, laidLooks := .later }
def MmuFindsCardSaid : Prop := Claim7.holds Tryz.pinned (.plain (OpenSpec.ofChange mmuFindsSpec)) mmuFindsCard

/-- THE TIED CARD OF 'hermitagelaw20.MmuHolds'. -/
def mmuHoldsCard : Claim7 := { stood := { row := mmuHoldsRow, standIns := [], harness := (true, "f45bf6fa29c2d6d7cb6400b96f297ea8dfbff6e0811ed8d092e64190062a9bfe"), looks := true }, kinds := [], alts := [], laidByText := true, laidKinds := [.data], laidTests := true, laidLooks := .later }
def MmuHoldsCardSaid : Prop := Claim7.holds Tryz.pinned (.plain (OpenSpec.ofChange mmuHoldsSpec)) mmuHoldsCard

/-- THE SECOND FORM's CARD OF 'hermitagelaw20.MmuSaves'. -/
def mmuSavesUptoCard : Claim7 := { stood := { row := mmuSavesUptoRow, standIns := [], harness := (true, "f45bf6fa29c2d6d7cb6400b96f297ea8dfbff6e0811ed8d092e64190062a9bfe"), looks := true }, kinds := [], alts := [], laidByText := true, laidKinds := [.data], laidTests := true, laidLooks := .later }
def MmuSavesUptoCardSaid : Prop := Claim7.holds Tryz.pinned (.plain (OpenSpec.upto mmuSavesSpec)) mmuSavesUptoCard

/-- THE SECOND FORM's CARD OF 'hermitagelaw20.MmuFinds'. -/
def mmuFindsUptoCard : Claim7 := { stood := { row := mmuFindsUptoRow, standIns := [], harness := (true, "f45bf6fa29c2d6d7cb6400b96f297ea8dfbff6e0811ed8d092e64190062a9bfe"), looks := true }, kinds := [], alts := [], laidByText := true, laidKinds := [.data], laidTests := true, laidLooks := .later }
def MmuFindsUptoCardSaid : Prop := Claim7.holds Tryz.pinned (.plain (OpenSpec.upto mmuFindsSpec)) mmuFindsUptoCard

/-- THE SECOND FORM's CARD OF 'hermitagelaw20.MmuHolds'. -/
def mmuHoldsUptoCard : Claim7 := { stood := { row := mmuHoldsUptoRow, standIns := [], harness := (true, "f45bf6fa29c2d6d7cb6400b96f297ea8dfbff6e0811ed8d092e64190062a9bfe"), looks := true }, kinds := [], alts := [], laidByText := true, laidKinds := [.data], laidTests := true, laidLooks := .later }
def MmuHoldsUptoCardSaid : Prop := Claim7.holds Tryz.pinned (.plain (OpenSpec.upto mmuHoldsSpec)) mmuHoldsUptoCard
end Rows
end Go.Proofs.YtllkdnadmmjehaaGreatDoor
