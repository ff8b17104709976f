/-
  NARROWER THAN 'FOR EVERY INPUT', by the rows' own cells (each row's printed sentence says how): HvClocks: laid · HvBegins: laid.
  DERIVED. THE GIVEN ROWS OF THIS SEAT. 2 by the template 'for every input the law returns true; each argument reads behind the call as it read before'; 0 by the template 'total and deterministic' (their statements: YtjaalpinjajaoaaGreatDoorTotals.lean).
  GIVEN WITH THE SEED: the statements are not yours to turn. If you find one false, say at which input.
  Laid BY PROGRAM, IN A SANDBOX (cutbox-rows.mjs): the forced cells as the released guide's own fill.sh prints them over the translation 230d3cb821d44fff… (all of the seat's roots in one cut). By AI agents, Wed Nov 11 2026. No macro, syntax, notation, axiom, sorry.
-/
import Derived.Test.YtjaalpinjajaoaaGreatDoorChecked
import GoSem.Claim
import GoSem.ClaimJoined
import GoSem.ClaimMapViews
import Derived.JoinedTies
import Derived.KernelRfl
namespace Go.Proofs.YtjaalpinjajaoaaGreatDoor
/- THE CELL 'sum', in the pinned program and in every row, IS THE sha256 OF THE DUMP (.gsa) THAT YtjaalpinjajaoaaGreatDoorProg.lean LOADS. Nothing in Lean hashes anything: it is a label: what it is worth is what the hold of that sum in a sandbox is worth. -/
noncomputable def Tryz.pinned : Pinned := { name := "ytjaalpinjajaoaagreatdoor", sum := "230d3cb821d44fff627cd7f3369a7995851a0e55ff96d4ad3d954ee7af1858d7", checked := Tryz.checked }
namespace Rows
def none {H : Type} : Left H := { results := [], args := [] }

/- WHAT THE LISTED PACKAGE-LEVEL VARIABLES READ AS WHEN THE CALL BEGINS. Each datum BY PROGRAM (the guide's laid-datum.mjs) off the statement by which the dump's own 'gosem.cut.vars' lays the variable. In a bare row this is a premise. The card (YtjaalpinjajaoaaGreatDoorCards.lean) ties it to the program's text. -/
def laid_hermitage_isa_has {H : Type} : DataW H := .agg [.lit (.int .i64 0), .lit (.int .i64 7), .lit (.int .i64 7), .lit (.int .i64 7), .lit (.int .i64 7), .lit (.int .i64 7), .lit (.int .i64 7), .lit (.int .i64 7), .lit (.int .i64 7), .lit (.int .i64 7), .lit (.int .i64 7), .lit (.int .i64 7), .lit (.int .i64 7), .lit (.int .i64 7), .lit (.int .i64 11), .lit (.int .i64 11), .lit (.int .i64 11), .lit (.int .i64 11), .lit (.int .i64 11), .lit (.int .i64 11), .lit (.int .i64 11), .lit (.int .i64 11), .lit (.int .i64 9), .lit (.int .i64 11), .lit (.int .i64 11), .lit (.int .i64 11), .lit (.int .i64 14), .lit (.int .i64 14), .lit (.int .i64 14), .lit (.int .i64 14), .lit (.int .i64 14), .lit (.int .i64 14), .lit (.int .i64 9), .lit (.int .i64 11), .lit (.int .i64 0), .lit (.int .i64 0), .lit (.int .i64 0), .lit (.int .i64 9), .lit (.int .i64 10), .lit (.int .i64 0), .lit (.int .i64 0), .lit (.int .i64 0)]
def laid_hermitage_mmu_kinds {H : Type} : DataW H := .agg [.agg [.lit (.int .i64 0), .lit (.int .i64 4)], .agg [.lit (.int .i64 1), .lit (.int .i64 1)], .agg [.lit (.int .i64 2), .lit (.int .i64 2)]]

/-- 'hermitagelaw38.HvClocks': WHATEVER THE INPUT: true; the input reads as it did. -/
def hvClocksSpec : ChangeSpec := { name := "hvClocks", fn := fun _ => fun
  | [d1, d2, d3] => { results := [.lit (.bool true)], args := [d1, d2, d3] }
  | _ => none }
def hvClocksRow : OpenClaim := { program := "ytjaalpinjajaoaagreatdoor", sum := "230d3cb821d44fff627cd7f3369a7995851a0e55ff96d4ad3d954ee7af1858d7", func := "hermitage/hermitagelaw38.HvClocks", spec := "hvClocks", inPlace := ["slices.overlaps[hermitage/api.Run]"], unfollowed := true, recurses := true, named := ["hermitage/mmu.kinds", "hermitage/isa.has"], apart := false, laid := [("hermitage/isa.has", laid_hermitage_isa_has), ("hermitage/mmu.kinds", laid_hermitage_mmu_kinds)] }
def HvClocksSaid : Prop := hvClocksRow.holds Tryz.pinned (OpenSpec.ofChange hvClocksSpec)

/-- ITS FALSE NEIGHBOUR: 'it returns false'. Refute it at one input. -/
def hvClocksWrong : ChangeSpec := { name := "hvClocks", fn := fun _ => fun
  | [d1, d2, d3] => { results := [.lit (.bool false)], args := [d1, d2, d3] }
  | _ => none }
def HvClocksWrongFalsely : Prop := hvClocksRow.holds Tryz.pinned (OpenSpec.ofChange hvClocksWrong)

/-- 'hermitagelaw38.HvBegins': WHATEVER THE INPUT: true; the input reads as it did. -/
def hvBeginsSpec : ChangeSpec := { name := "hvBegins", fn := fun _ => fun
  | [d1, d2] => { results := [.lit (.bool true)], args := [d1, d2] }
  | _ => none }
def hvBeginsRow : OpenClaim := { program := "ytjaalpinjajaoaagreatdoor", sum := "230d3cb821d44fff627cd7f3369a7995851a0e55ff96d4ad3d954ee7af1858d7", func := "hermitage/hermitagelaw38.HvBegins", spec := "hvBegins", inPlace := ["slices.overlaps[hermitage/api.Run]"], unfollowed := true, recurses := true, named := ["hermitage/mmu.kinds", "hermitage/isa.has"], apart := false, laid := [("hermitage/isa.has", laid_hermitage_isa_has), ("hermitage/mmu.kinds", laid_hermitage_mmu_kinds)] }
def HvBeginsSaid : Prop := hvBeginsRow.holds Tryz.pinned (OpenSpec.ofChange hvBeginsSpec)

/-- ITS FALSE NEIGHBOUR: 'it returns false'. Refute it at one input. -/
def hvBeginsWrong : ChangeSpec := { name := "hvBegins", fn := fun _ => fun
  | [d1, d2] => { results := [.lit (.bool false)], args := [d1, d2] }
  | _ => none }
def HvBeginsWrongFalsely : Prop := hvBeginsRow.holds Tryz.pinned (OpenSpec.ofChange hvBeginsWrong)

/- THE SECOND FORM. 'bulk': how many values and letters a reading holds, each counted each time it is reached (what is shared counts as often as it is met; a slice's spare places count too). A statement '..UptoSaid' is the law's where the arguments, and the package variables that the reading takes, are together of bulk at most 1048576: NARROWER than '..Said'. Prove '..Said' where nothing that the law and all that it calls make is longer than what came in: it says more and counts as full. Else prove '..UptoSaid'. A law counts once. -/
mutual
def uptoBulk {H : Type} : DataW H → Nat
  | .lit (.string bytes) => bytes.length + 1
  | .lit _ => 1
  | .nil => 1
  | .ptr d => uptoBulk d + 1
  | .slice elems spare => uptoBulkAll elems + uptoBulkAll spare + 1
  | .agg parts => uptoBulkAll parts + 1
  | .iface _ d => uptoBulk d + 1
  | .map entries => uptoBulkEntries entries + 1
  | .held _ => 1
def uptoBulkAll {H : Type} : List (DataW H) → Nat
  | [] => 0
  | d :: r => uptoBulk d + uptoBulkAll r
def uptoBulkEntries {H : Type} : List (Lit × DataW H) → Nat
  | [] => 0
  | x :: r => uptoBulkEntry x + uptoBulkEntries r
def uptoBulkEntry {H : Type} : Lit × DataW H → Nat
  | (.string bytes, d) => bytes.length + uptoBulk d + 1
  | (_, d) => uptoBulk d + 1
 end
def uptoSmall : (H : Type) → List (DataW H) → Bool := fun _ ds => decide (uptoBulkAll ds ≤ 1048576)
def OpenSpec.upto (s : _root_.Go.ChangeSpec) : _root_.Go.OpenSpec := { _root_.Go.OpenSpec.ofChange s with cond := some uptoSmall }

/-- 'hermitagelaw38.HvClocks', WHERE WHAT IT READS IS OF BULK AT MOST 1048576: true; the input reads as it did. -/
def hvClocksUptoRow : OpenClaim := { program := "ytjaalpinjajaoaagreatdoor", sum := "230d3cb821d44fff627cd7f3369a7995851a0e55ff96d4ad3d954ee7af1858d7", func := "hermitage/hermitagelaw38.HvClocks", spec := "hvClocks", inPlace := ["slices.overlaps[hermitage/api.Run]"], unfollowed := true, recurses := true, named := ["hermitage/mmu.kinds", "hermitage/isa.has"], apart := false, laid := [("hermitage/isa.has", laid_hermitage_isa_has), ("hermitage/mmu.kinds", laid_hermitage_mmu_kinds)], narrowed := true }
def HvClocksUptoSaid : Prop := hvClocksUptoRow.holds Tryz.pinned (OpenSpec.upto hvClocksSpec)

/-- 'hermitagelaw38.HvBegins', WHERE WHAT IT READS IS OF BULK AT MOST 1048576: true; the input reads as it did. -/
def hvBeginsUptoRow : OpenClaim := { program := "ytjaalpinjajaoaagreatdoor", sum := "230d3cb821d44fff627cd7f3369a7995851a0e55ff96d4ad3d954ee7af1858d7", func := "hermitage/hermitagelaw38.HvBegins", spec := "hvBegins", inPlace := ["slices.overlaps[hermitage/api.Run]"], unfollowed := true, recurses := true, named := ["hermitage/mmu.kinds", "hermitage/isa.has"], apart := false, laid := [("hermitage/isa.has", laid_hermitage_isa_has), ("hermitage/mmu.kinds", laid_hermitage_mmu_kinds)], narrowed := true }
def HvBeginsUptoSaid : Prop := hvBeginsUptoRow.holds Tryz.pinned (OpenSpec.upto hvBeginsSpec)

end Rows
end Go.Proofs.YtjaalpinjajaoaaGreatDoor
