/-
  NARROWER THAN 'FOR EVERY INPUT', by the rows' own cells (each row's printed sentence says how): GuestOwn: laid · GuestAnew: laid.
  DERIVED. THE GIVEN ROWS OF THIS SEAT. 2 by the template 'for every input the law returns true; each argument reads behind the call as it read before'; 0 by the template 'total and deterministic' (their statements: YtbhimdcapbflkaaGreatDoorTotals.lean).
  GIVEN WITH THE SEED: the statements are not yours to turn. If you find one false, say at which input.
  Laid BY PROGRAM, IN A SANDBOX (cutbox-rows.mjs): the forced cells as the released guide's own fill.sh prints them over the translation de9871d756d4c636… (all of the seat's roots in one cut). By AI agents, Wed Nov 11 2026. No macro, syntax, notation, axiom, sorry.
-/
import Derived.Test.YtbhimdcapbflkaaGreatDoorChecked
import GoSem.Claim
import GoSem.ClaimJoined
import GoSem.ClaimMapViews
import Derived.JoinedTies
import Derived.KernelRfl
namespace Go.Proofs.YtbhimdcapbflkaaGreatDoor
/- THE CELL 'sum', in the pinned program and in every row, IS THE sha256 OF THE DUMP (.gsa) THAT YtbhimdcapbflkaaGreatDoorProg.lean LOADS. Nothing in Lean hashes anything: it is a label: what it is worth is what the hold of that sum in a sandbox is worth. -/
noncomputable def Tryz.pinned : Pinned := { name := "ytbhimdcapbflkaagreatdoor", sum := "de9871d756d4c636c379d8d06475e572ab6cb1aec2d841a94c899cc9de71164f", checked := Tryz.checked }
namespace Rows
def none {H : Type} : Left H := { results := [], args := [] }

/- WHAT THE LISTED PACKAGE-LEVEL VARIABLES READ AS WHEN THE CALL BEGINS. Each datum BY PROGRAM (the guide's laid-datum.mjs) off the statement by which the dump's own 'gosem.cut.vars' lays the variable. In a bare row this is a premise. The card (YtbhimdcapbflkaaGreatDoorCards.lean) ties it to the program's text. -/
def laid_hermitage_isa_has {H : Type} : DataW H := .agg [.lit (.int .i64 0), .lit (.int .i64 7), .lit (.int .i64 7), .lit (.int .i64 7), .lit (.int .i64 7), .lit (.int .i64 7), .lit (.int .i64 7), .lit (.int .i64 7), .lit (.int .i64 7), .lit (.int .i64 7), .lit (.int .i64 7), .lit (.int .i64 7), .lit (.int .i64 7), .lit (.int .i64 7), .lit (.int .i64 11), .lit (.int .i64 11), .lit (.int .i64 11), .lit (.int .i64 11), .lit (.int .i64 11), .lit (.int .i64 11), .lit (.int .i64 11), .lit (.int .i64 11), .lit (.int .i64 9), .lit (.int .i64 11), .lit (.int .i64 11), .lit (.int .i64 11), .lit (.int .i64 14), .lit (.int .i64 14), .lit (.int .i64 14), .lit (.int .i64 14), .lit (.int .i64 14), .lit (.int .i64 14), .lit (.int .i64 9), .lit (.int .i64 11), .lit (.int .i64 0), .lit (.int .i64 0), .lit (.int .i64 0), .lit (.int .i64 9), .lit (.int .i64 10), .lit (.int .i64 0), .lit (.int .i64 0), .lit (.int .i64 0)]
def laid_hermitage_mmu_kinds {H : Type} : DataW H := .agg [.agg [.lit (.int .i64 0), .lit (.int .i64 4)], .agg [.lit (.int .i64 1), .lit (.int .i64 1)], .agg [.lit (.int .i64 2), .lit (.int .i64 2)]]

/-- 'hermitagelaw36.GuestOwn': WHATEVER THE INPUT: true; the input reads as it did. -/
def guestOwnSpec : ChangeSpec := { name := "guestOwn", fn := fun _ => fun
  | [d1, d2, d3, d4, d5] => { results := [.lit (.bool true)], args := [d1, d2, d3, d4, d5] }
  | _ => none }
def guestOwnRow : OpenClaim := { program := "ytbhimdcapbflkaagreatdoor", sum := "de9871d756d4c636c379d8d06475e572ab6cb1aec2d841a94c899cc9de71164f", func := "hermitage/hermitagelaw36.GuestOwn", spec := "guestOwn", inPlace := ["slices.overlaps[hermitage/api.Run]"], unfollowed := true, recurses := true, named := ["hermitage/mmu.kinds", "hermitage/isa.has"], apart := false, laid := [("hermitage/isa.has", laid_hermitage_isa_has), ("hermitage/mmu.kinds", laid_hermitage_mmu_kinds)] }
def GuestOwnSaid : Prop := guestOwnRow.holds Tryz.pinned (OpenSpec.ofChange guestOwnSpec)

/-- ITS FALSE NEIGHBOUR: 'it returns false'. Refute it at one input. -/
def guestOwnWrong : ChangeSpec := { name := "guestOwn", fn := fun _ => fun
  | [d1, d2, d3, d4, d5] => { results := [.lit (.bool false)], args := [d1, d2, d3, d4, d5] }
  | _ => none }
def GuestOwnWrongFalsely : Prop := guestOwnRow.holds Tryz.pinned (OpenSpec.ofChange guestOwnWrong)

/-- 'hermitagelaw36.GuestAnew': WHATEVER THE INPUT: true; the input reads as it did. -/
def guestAnewSpec : ChangeSpec := { name := "guestAnew", fn := fun _ => fun
  | [d1, d2, d3, d4] => { results := [.lit (.bool true)], args := [d1, d2, d3, d4] }
  | _ => none }
def guestAnewRow : OpenClaim := { program := "ytbhimdcapbflkaagreatdoor", sum := "de9871d756d4c636c379d8d06475e572ab6cb1aec2d841a94c899cc9de71164f", func := "hermitage/hermitagelaw36.GuestAnew", spec := "guestAnew", inPlace := ["slices.overlaps[hermitage/api.Run]"], unfollowed := true, recurses := true, named := ["hermitage/mmu.kinds", "hermitage/isa.has"], apart := false, laid := [("hermitage/isa.has", laid_hermitage_isa_has), ("hermitage/mmu.kinds", laid_hermitage_mmu_kinds)] }
def GuestAnewSaid : Prop := guestAnewRow.holds Tryz.pinned (OpenSpec.ofChange guestAnewSpec)

/-- ITS FALSE NEIGHBOUR: 'it returns false'. Refute it at one input. -/
def guestAnewWrong : ChangeSpec := { name := "guestAnew", fn := fun _ => fun
  | [d1, d2, d3, d4] => { results := [.lit (.bool false)], args := [d1, d2, d3, d4] }
  | _ => none }
def GuestAnewWrongFalsely : Prop := guestAnewRow.holds Tryz.pinned (OpenSpec.ofChange guestAnewWrong)

/- THE SECOND FORM. 'bulk': how many values and letters a reading holds, each counted each time it is reached (what is shared counts as often as it is met; a slice's spare places count too). A statement '..UptoSaid' is the law's where the arguments, and the package variables that the reading takes, are together of bulk at most 1048576: NARROWER than '..Said'. Prove '..Said' where nothing that the law and all that it calls make is longer than what came in: it says more and counts as full. Else prove '..UptoSaid'. A law counts once. -/
mutual
def uptoBulk {H : Type} : DataW H → Nat
  | .lit (.string bytes) => bytes.length + 1
  | .lit _ => 1
  | .nil => 1
  | .ptr d => uptoBulk d + 1
  | .slice elems spare => uptoBulkAll elems + uptoBulkAll spare + 1
  | .agg parts => uptoBulkAll parts + 1
  | .iface _ d => uptoBulk d + 1
  | .map entries => uptoBulkEntries entries + 1
  | .held _ => 1
def uptoBulkAll {H : Type} : List (DataW H) → Nat
  | [] => 0
  | d :: r => uptoBulk d + uptoBulkAll r
def uptoBulkEntries {H : Type} : List (Lit × DataW H) → Nat
  | [] => 0
  | x :: r => uptoBulkEntry x + uptoBulkEntries r
def uptoBulkEntry {H : Type} : Lit × DataW H → Nat
  | (.string bytes, d) => bytes.length + uptoBulk d + 1
  | (_, d) => uptoBulk d + 1
 end
def uptoSmall : (H : Type) → List (DataW H) → Bool := fun _ ds => decide (uptoBulkAll ds ≤ 1048576)
def OpenSpec.upto (s : _root_.Go.ChangeSpec) : _root_.Go.OpenSpec := { _root_.Go.OpenSpec.ofChange s with cond := some uptoSmall }

/-- 'hermitagelaw36.GuestOwn', WHERE WHAT IT READS IS OF BULK AT MOST 1048576: true; the input reads as it did. -/
def guestOwnUptoRow : OpenClaim := { program := "ytbhimdcapbflkaagreatdoor", sum := "de9871d756d4c636c379d8d06475e572ab6cb1aec2d841a94c899cc9de71164f", func := "hermitage/hermitagelaw36.GuestOwn", spec := "guestOwn", inPlace := ["slices.overlaps[hermitage/api.Run]"], unfollowed := true, recurses := true, named := ["hermitage/mmu.kinds", "hermitage/isa.has"], apart := false, laid := [("hermitage/isa.has", laid_hermitage_isa_has), ("hermitage/mmu.kinds", laid_hermitage_mmu_kinds)], narrowed := true }
def GuestOwnUptoSaid : Prop := guestOwnUptoRow.holds Tryz.pinned (OpenSpec.upto guestOwnSpec)

/-- 'hermitagelaw36.GuestAnew', WHERE WHAT IT READS IS OF BULK AT MOST 1048576: true; the input reads as it did. -/
def guestAnewUptoRow : OpenClaim := { program := "ytbhimdcapbflkaagreatdoor", sum := "de9871d756d4c636c379d8d06475e572ab6cb1aec2d841a94c899cc9de71164f", func := "hermitage/hermitagelaw36.GuestAnew", spec := "guestAnew", inPlace := ["slices.overlaps[hermitage/api.Run]"], unfollowed := true, recurses := true, named := ["hermitage/mmu.kinds", "hermitage/isa.has"], apart := false, laid := [("hermitage/isa.has", laid_hermitage_isa_has), ("hermitage/mmu.kinds", laid_hermitage_mmu_kinds)], narrowed := true }
def GuestAnewUptoSaid : Prop := guestAnewUptoRow.holds Tryz.pinned (OpenSpec.upto guestAnewSpec)

end Rows
end Go.Proofs.YtbhimdcapbflkaaGreatDoor
