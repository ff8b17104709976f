/-
  DERIVED. GIVEN WITH THE SEED: THE CARDS: each row of YtjaalpinjajaoaaGreatDoorRows.lean that lists a variable, with what it lists TIED to the program's text (the seventh form; the later family's looks); each row that meets fmt, with fmt's text TOLD by the authors' own Lean function (tested against real Go, not proved from fmt's source: count such statements apart). THE CARD IS WHAT COUNTS. Prove the row's statement (the work); the ties are given (YtjaalpinjajaoaaGreatDoorTie.lean); close each card by the builder's one call (the guide's Derived/Test/ToyasCard.lean, 'card_holds'). Laid BY PROGRAM, IN A SANDBOX (cutbox-door.mjs). By AI agents, Wed Nov 11 2026. No macro, syntax, notation, axiom, sorry.
-/
import Derived.Test.YtjaalpinjajaoaaGreatDoorRows
import GoSem.ClaimSeven
namespace Go.Proofs.YtjaalpinjajaoaaGreatDoor
namespace Rows

/-- THE TIED CARD OF 'hermitagelaw38.HvClocks'. -/
def hvClocksCard : Claim7 := { stood := { row := hvClocksRow, standIns := [], harness := (true, "a2270f0c1ae3f86cd8070e05ffd35193389ff5fd92ac4d544c3858c89b4ea908"), looks := true }, kinds := [], alts := [], laidByText := true, laidKinds := [.data, .data], laidTests := true, laidLooks := .later }
def HvClocksCardSaid : Prop := Claim7.holds Tryz.pinned (.plain (OpenSpec.ofChange hvClocksSpec)) hvClocksCard

/-- THE TIED CARD OF 'hermitagelaw38.HvBegins'. -/
def hvBeginsCard : Claim7 := { stood := { row := hvBeginsRow, standIns := [], harness := (true, "a2270f0c1ae3f86cd8070e05ffd35193389ff5fd92ac4d544c3858c89b4ea908"), looks := true }, kinds := [], alts := [], laidByText := true, laidKinds := [.data, .data], laidTests := true, laidLooks := .later }
def HvBeginsCardSaid : Prop := Claim7.holds Tryz.pinned (.plain (OpenSpec.ofChange hvBeginsSpec)) hvBeginsCard

/-- THE SECOND FORM's CARD OF 'hermitagelaw38.HvClocks'. -/
def hvClocksUptoCard : Claim7 := { stood := { row := hvClocksUptoRow, standIns := [], harness := (true, "a2270f0c1ae3f86cd8070e05ffd35193389ff5fd92ac4d544c3858c89b4ea908"), looks := true }, kinds := [], alts := [], laidByText := true, laidKinds := [.data, .data], laidTests := true, laidLooks := .later }
def HvClocksUptoCardSaid : Prop := Claim7.holds Tryz.pinned (.plain (OpenSpec.upto hvClocksSpec)) hvClocksUptoCard

/-- THE SECOND FORM's CARD OF 'hermitagelaw38.HvBegins'. -/
def hvBeginsUptoCard : Claim7 := { stood := { row := hvBeginsUptoRow, standIns := [], harness := (true, "a2270f0c1ae3f86cd8070e05ffd35193389ff5fd92ac4d544c3858c89b4ea908"), looks := true }, kinds := [], alts := [], laidByText := true, laidKinds := [.data, .data], laidTests := true, laidLooks := .later }
def HvBeginsUptoCardSaid : Prop := Claim7.holds Tryz.pinned (.plain (OpenSpec.upto hvBeginsSpec)) hvBeginsUptoCard
end Rows
end Go.Proofs.YtjaalpinjajaoaaGreatDoor
