/-
  NARROWER THAN 'FOR EVERY INPUT', by the rows' own cells (each row's printed sentence says how): MmuSaves: laid · MmuFinds: laid · MmuHolds: laid.
  DERIVED. THE GIVEN ROWS OF THIS SEAT. 3 by the template 'for every input the law returns true; each argument reads behind the call as it read before'; 0 by the template 'total and deterministic' (their statements: YtllkdnadmmjehaaGreatDoorTotals.lean).
  GIVEN WITH THE SEED: the statements are not yours to turn. If you find one false, say at which input.
  Laid BY PROGRAM, IN A SANDBOX (cutbox-rows.mjs): the forced cells as the released guide's own fill.sh prints them over the translation 02a15c96e4d6e8f8… (all of the seat's roots in one cut). By AI agents, Wed Nov 11 2026. No macro, syntax, notation, axiom, sorry.
-/
import Derived.Test.YtllkdnadmmjehaaGreatDoorChecked
import GoSem.Claim
import GoSem.ClaimJoined
import GoSem.ClaimMapViews
import Derived.JoinedTies
import Derived.KernelRfl
namespace Go.Proofs.YtllkdnadmmjehaaGreatDoor
/- THE CELL 'sum', in the pinned program and in every row, IS THE sha256 OF THE DUMP (.gsa) THAT YtllkdnadmmjehaaGreatDoorProg.lean LOADS. Nothing in Lean hashes anything: it is a label: what it is worth is what the hold of that sum in a sandbox is worth. -/
noncomputable def Tryz.pinned : Pinned := { name := "ytllkdnadmmjehaagreatdoor", sum := "02a15c96e4d6e8f8096972e928db10b9d2a164a9198918d4795baedcdc8e3c34", checked := Tryz.checked }
namespace Rows
def none {H : Type} : Left H := { results := [], args := [] }

/- WHAT THE LISTED PACKAGE-LEVEL VARIABLES READ AS WHEN THE CALL BEGINS. Each datum BY PROGRAM (the guide's laid-datum.mjs) off the statement by which the dump's own 'gosem.cut.vars' lays the variable. In a bare row this is a premise. The card (YtllkdnadmmjehaaGreatDoorCards.lean) ties it to the program's text. -/
def laid_hermitage_mmu_kinds {H : Type} : DataW H := .agg [.agg [.lit (.int .i64 0), .lit (.int .i64 4)], .agg [.lit (.int .i64 1), .lit (.int .i64 1)], .agg [.lit (.int .i64 2), .lit (.int .i64 2)]]

/-- 'hermitagelaw20.MmuSaves': WHATEVER THE INPUT: true; the input reads as it did. -/
def mmuSavesSpec : ChangeSpec := { name := "mmuSaves", fn := fun _ => fun
  | [d1, d2, d3] => { results := [.lit (.bool true)], args := [d1, d2, d3] }
  | _ => none }
def mmuSavesRow : OpenClaim := { program := "ytllkdnadmmjehaagreatdoor", sum := "02a15c96e4d6e8f8096972e928db10b9d2a164a9198918d4795baedcdc8e3c34", func := "hermitage/hermitagelaw20.MmuSaves", spec := "mmuSaves", unfollowed := true, recurses := true, named := ["hermitage/mmu.kinds"], apart := false, laid := [("hermitage/mmu.kinds", laid_hermitage_mmu_kinds)] }
def MmuSavesSaid : Prop := mmuSavesRow.holds Tryz.pinned (OpenSpec.ofChange mmuSavesSpec)

/-- ITS FALSE NEIGHBOUR: 'it returns false'. Refute it at one input. -/
def mmuSavesWrong : ChangeSpec := { name := "mmuSaves", fn := fun _ => fun
  | [d1, d2, d3] => { results := [.lit (.bool false)], args := [d1, d2, d3] }
  | _ => none }
def MmuSavesWrongFalsely : Prop := mmuSavesRow.holds Tryz.pinned (OpenSpec.ofChange mmuSavesWrong)

/-- 'hermitagelaw20.MmuFinds': WHATEVER THE INPUT: true; the input reads as it did. -/
def mmuFindsSpec : ChangeSpec := { name := "mmuFinds", fn := fun _ => fun
  | [d1, d2, d3] => { results := [.lit (.bool true)], args := [d1, d2, d3] }
  | _ => none }
def mmuFindsRow : OpenClaim := { program := "ytllkdnadmmjehaagreatdoor", sum := "02a15c96e4d6e8f8096972e928db10b9d2a164a9198918d4795baedcdc8e3c34", func := "hermitage/hermitagelaw20.MmuFinds", spec := "mmuFinds", unfollowed := true, recurses := true, named := ["hermitage/mmu.kinds"], apart := false, laid := [("hermitage/mmu.kinds", laid_hermitage_mmu_kinds)] }
def MmuFindsSaid : Prop := mmuFindsRow.holds Tryz.pinned (OpenSpec.ofChange mmuFindsSpec)

/-- ITS FALSE NEIGHBOUR: 'it returns false'. Refute it at one input. -/
def mmuFindsWrong : ChangeSpec := { name := "mmuFinds", fn := fun _ => fun
  | [d1, d2, d3] => { results := [.lit (.bool false)], args := [d1, d2, d3] }
  | _ => none }
def MmuFindsWrongFalsely : Prop := mmuFindsRow.holds Tryz.pinned (OpenSpec.ofChange mmuFindsWrong)

/-- 'hermitagelaw20.MmuHolds': WHATEVER THE INPUT: true; the input reads as it did. -/
def mmuHoldsSpec : ChangeSpec := { name := "mmuHolds", fn := fun _ => fun
  | [d1, d2, d3] => { results := [.lit (.bool true)], args := [d1, d2, d3] }
  | _ => none }
def mmuHoldsRow : OpenClaim := { program := "ytllkdnadmmjehaagreatdoor", sum := "02a15c96e4d6e8f8096972e928db10b9d2a164a9198918d4795baedcdc8e3c34", func := "hermitage/hermitagelaw20.MmuHolds", spec := "mmuHolds", unfollowed := true, recurses := true, named := ["hermitage/mmu.kinds"], apart := false, laid := [("hermitage/mmu.kinds", laid_hermitage_mmu_kinds)] }
def MmuHoldsSaid : Prop := mmuHoldsRow.holds Tryz.pinned (OpenSpec.ofChange mmuHoldsSpec)

/-- ITS FALSE NEIGHBOUR: 'it returns false'. Refute it at one input. -/
def mmuHoldsWrong : ChangeSpec := { name := "mmuHolds", fn := fun _ => fun
  | [d1, d2, d3] => { results := [.lit (.bool false)], args := [d1, d2, d3] }
  | _ => none }
def MmuHoldsWrongFalsely : Prop := mmuHoldsRow.holds Tryz.pinned (OpenSpec.ofChange mmuHoldsWrong)

/- THE SECOND FORM. 'bulk': how many values and letters a reading holds, each counted each time it is reached (what is shared counts as often as it is met; a slice's spare places count too). A statement '..UptoSaid' is the law's where the arguments, and the package variables that the reading takes, are together of bulk at most 1048576: NARROWER than '..Said'. Prove '..Said' where nothing that the law and all that it calls make is longer than what came in: it says more and counts as full. Else prove '..UptoSaid'. A law counts once. -/
mutual
def uptoBulk {H : Type} : DataW H → Nat
  | .lit (.string bytes) => bytes.length + 1
  | .lit _ => 1
  | .nil => 1
  | .ptr d => uptoBulk d + 1
  | .slice elems spare => uptoBulkAll elems + uptoBulkAll spare + 1
  | .agg parts => uptoBulkAll parts + 1
  | .iface _ d => uptoBulk d + 1
  | .map entries => uptoBulkEntries entries + 1
  | .held _ => 1
def uptoBulkAll {H : Type} : List (DataW H) → Nat
  | [] => 0
  | d :: r => uptoBulk d + uptoBulkAll r
def uptoBulkEntries {H : Type} : List (Lit × DataW H) → Nat
  | [] => 0
  | x :: r => uptoBulkEntry x + uptoBulkEntries r
def uptoBulkEntry {H : Type} : Lit × DataW H → Nat
  | (.string bytes, d) => bytes.length + uptoBulk d + 1
  | (_, d) => uptoBulk d + 1
 end
def uptoSmall : (H : Type) → List (DataW H) → Bool := fun _ ds => decide (uptoBulkAll ds ≤ 1048576)
def OpenSpec.upto (s : _root_.Go.ChangeSpec) : _root_.Go.OpenSpec := { _root_.Go.OpenSpec.ofChange s with cond := some uptoSmall }

/-- 'hermitagelaw20.MmuSaves', WHERE WHAT IT READS IS OF BULK AT MOST 1048576: true; the input reads as it did. -/
def mmuSavesUptoRow : OpenClaim := { program := "ytllkdnadmmjehaagreatdoor", sum := "02a15c96e4d6e8f8096972e928db10b9d2a164a9198918d4795baedcdc8e3c34", func := "hermitage/hermitagelaw20.MmuSaves", spec := "mmuSaves", unfollowed := true, recurses := true, named := ["hermitage/mmu.kinds"], apart := false, laid := [("hermitage/mmu.kinds", laid_hermitage_mmu_kinds)], narrowed := true }
def MmuSavesUptoSaid : Prop := mmuSavesUptoRow.holds Tryz.pinned (OpenSpec.upto mmuSavesSpec)

/-- 'hermitagelaw20.MmuFinds', WHERE WHAT IT READS IS OF BULK AT MOST 1048576: true; the input reads as it did. -/
def mmuFindsUptoRow : OpenClaim := { program := "ytllkdnadmmjehaagreatdoor", sum := "02a15c96e4d6e8f8096972e928db10b9d2a164a9198918d4795baedcdc8e3c34", func := "hermitage/hermitagelaw20.MmuFinds", spec := "mmuFinds", unfollowed := true, recurses := true, named := ["hermitage/mmu.kinds"], apart := false, laid := [("hermitage/mmu.kinds", laid_hermitage_mmu_kinds)], narrowed := true }
def MmuFindsUptoSaid : Prop := mmuFindsUptoRow.holds Tryz.pinned (OpenSpec.upto mmuFindsSpec)

/-- 'hermitagelaw20.MmuHolds', WHERE WHAT IT READS IS OF BULK AT MOST 1048576: true; the input reads as it did. -/
def mmuHoldsUptoRow : OpenClaim := { program := "ytllkdnadmmjehaagreatdoor", sum := "02a15c96e4d6e8f8096972e928db10b9d2a164a9198918d4795baedcdc8e3c34", func := "hermitage/hermitagelaw20.MmuHolds", spec := "mmuHolds", unfollowed := true, recurses := true, named := ["hermitage/mmu.kinds"], apart := false, laid := [("hermitage/mmu.kinds", laid_hermitage_mmu_kinds)], narrowed := true }
def MmuHoldsUptoSaid : Prop := mmuHoldsUptoRow.holds Tryz.pinned (OpenSpec.upto mmuHoldsSpec)

end Rows
end Go.Proofs.YtllkdnadmmjehaaGreatDoor
