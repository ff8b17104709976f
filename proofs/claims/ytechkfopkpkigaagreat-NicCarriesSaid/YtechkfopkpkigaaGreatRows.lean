/-
  No cell of these rows narrows 'for every input' (looked for: loops, veiled, ifaces, maps, wideKeys, modest, calm, conditions, laid).
  DERIVED. THE GIVEN ROWS OF THIS SEAT. 6 by the template 'for every input the law returns true; each argument reads behind the call as it read before'; 0 by the template 'total and deterministic' (their statements: YtechkfopkpkigaaGreatTotals.lean).
  GIVEN WITH THE SEED: the statements are not yours to turn. If you find one false, say at which input.
  Laid BY PROGRAM, IN A SANDBOX (cutbox-rows.mjs): the forced cells as the released guide's own fill.sh prints them over the translation ba7262495b4edc79… (all of the seat's roots in one cut). By AI agents, Wed Nov 11 2026. No macro, syntax, notation, axiom, sorry.
-/
import Derived.Test.YtechkfopkpkigaaGreatChecked
import GoSem.Claim
import GoSem.ClaimJoined
import GoSem.ClaimMapViews
import Derived.JoinedTies
import Derived.KernelRfl
namespace Go.Proofs.YtechkfopkpkigaaGreat
/- THE CELL 'sum', in the pinned program and in every row, IS THE sha256 OF THE DUMP (.gsa) THAT YtechkfopkpkigaaGreatProg.lean LOADS. Nothing in Lean hashes anything: it is a label: what it is worth is what the hold of that sum in a sandbox is worth. -/
noncomputable def Tryz.pinned : Pinned := { name := "ytechkfopkpkigaagreat", sum := "ba7262495b4edc79593ca19dacaee0d0530e5d2ce03e0080e1322392f3924b2a", checked := Tryz.checked }
namespace Rows
def none {H : Type} : Left H := { results := [], args := [] }

/-- 'hermitagelaw41.SightPlays': WHATEVER THE INPUT: true; the input reads as it did. -/
def sightPlaysSpec : ChangeSpec := { name := "sightPlays", fn := fun _ => fun
  | [d1, d2, d3, d4] => { results := [.lit (.bool true)], args := [d1, d2, d3, d4] }
  | _ => none }
def sightPlaysRow : OpenClaim := { program := "ytechkfopkpkigaagreat", sum := "ba7262495b4edc79593ca19dacaee0d0530e5d2ce03e0080e1322392f3924b2a", func := "hermitage/hermitagelaw41.SightPlays", spec := "sightPlays", inPlace := ["slices.overlaps[hermitage/api.Run]"], unfollowed := true, recurses := true, apart := false }
def SightPlaysSaid : Prop := sightPlaysRow.holds Tryz.pinned (OpenSpec.ofChange sightPlaysSpec)

/-- ITS FALSE NEIGHBOUR: 'it returns false'. Refute it at one input. -/
def sightPlaysWrong : ChangeSpec := { name := "sightPlays", fn := fun _ => fun
  | [d1, d2, d3, d4] => { results := [.lit (.bool false)], args := [d1, d2, d3, d4] }
  | _ => none }
def SightPlaysWrongFalsely : Prop := sightPlaysRow.holds Tryz.pinned (OpenSpec.ofChange sightPlaysWrong)

/-- 'hermitagelaw23.QueueBroken': WHATEVER THE INPUT: true; the input reads as it did. -/
def queueBrokenSpec : ChangeSpec := { name := "queueBroken", fn := fun _ => fun
  | [d1, d2, d3] => { results := [.lit (.bool true)], args := [d1, d2, d3] }
  | _ => none }
def queueBrokenRow : OpenClaim := { program := "ytechkfopkpkigaagreat", sum := "ba7262495b4edc79593ca19dacaee0d0530e5d2ce03e0080e1322392f3924b2a", func := "hermitage/hermitagelaw23.QueueBroken", spec := "queueBroken", unfollowed := true, recurses := true, apart := false }
def QueueBrokenSaid : Prop := queueBrokenRow.holds Tryz.pinned (OpenSpec.ofChange queueBrokenSpec)

/-- ITS FALSE NEIGHBOUR: 'it returns false'. Refute it at one input. -/
def queueBrokenWrong : ChangeSpec := { name := "queueBroken", fn := fun _ => fun
  | [d1, d2, d3] => { results := [.lit (.bool false)], args := [d1, d2, d3] }
  | _ => none }
def QueueBrokenWrongFalsely : Prop := queueBrokenRow.holds Tryz.pinned (OpenSpec.ofChange queueBrokenWrong)

/-- 'hermitagelaw27.NicCarries': WHATEVER THE INPUT: true; the input reads as it did. -/
def nicCarriesSpec : ChangeSpec := { name := "nicCarries", fn := fun _ => fun
  | [d1, d2, d3, d4] => { results := [.lit (.bool true)], args := [d1, d2, d3, d4] }
  | _ => none }
def nicCarriesRow : OpenClaim := { program := "ytechkfopkpkigaagreat", sum := "ba7262495b4edc79593ca19dacaee0d0530e5d2ce03e0080e1322392f3924b2a", func := "hermitage/hermitagelaw27.NicCarries", spec := "nicCarries", unfollowed := true, recurses := true, apart := false }
def NicCarriesSaid : Prop := nicCarriesRow.holds Tryz.pinned (OpenSpec.ofChange nicCarriesSpec)

/-- ITS FALSE NEIGHBOUR: 'it returns false'. Refute it at one input. -/
def nicCarriesWrong : ChangeSpec := { name := "nicCarries", fn := fun _ => fun
  | [d1, d2, d3, d4] => { results := [.lit (.bool false)], args := [d1, d2, d3, d4] }
  | _ => none }
def NicCarriesWrongFalsely : Prop := nicCarriesRow.holds Tryz.pinned (OpenSpec.ofChange nicCarriesWrong)

/-- 'hermitagelaw27.NicWaits': WHATEVER THE INPUT: true; the input reads as it did. -/
def nicWaitsSpec : ChangeSpec := { name := "nicWaits", fn := fun _ => fun
  | [d1, d2] => { results := [.lit (.bool true)], args := [d1, d2] }
  | _ => none }
def nicWaitsRow : OpenClaim := { program := "ytechkfopkpkigaagreat", sum := "ba7262495b4edc79593ca19dacaee0d0530e5d2ce03e0080e1322392f3924b2a", func := "hermitage/hermitagelaw27.NicWaits", spec := "nicWaits", unfollowed := true, recurses := true, apart := false }
def NicWaitsSaid : Prop := nicWaitsRow.holds Tryz.pinned (OpenSpec.ofChange nicWaitsSpec)

/-- ITS FALSE NEIGHBOUR: 'it returns false'. Refute it at one input. -/
def nicWaitsWrong : ChangeSpec := { name := "nicWaits", fn := fun _ => fun
  | [d1, d2] => { results := [.lit (.bool false)], args := [d1, d2] }
  | _ => none }
def NicWaitsWrongFalsely : Prop := nicWaitsRow.holds Tryz.pinned (OpenSpec.ofChange nicWaitsWrong)

/-- 'hermitagelaw27.NicBound': WHATEVER THE INPUT: true; the input reads as it did. -/
def nicBoundSpec : ChangeSpec := { name := "nicBound", fn := fun _ => fun
  | [d1, d2, d3] => { results := [.lit (.bool true)], args := [d1, d2, d3] }
  | _ => none }
def nicBoundRow : OpenClaim := { program := "ytechkfopkpkigaagreat", sum := "ba7262495b4edc79593ca19dacaee0d0530e5d2ce03e0080e1322392f3924b2a", func := "hermitage/hermitagelaw27.NicBound", spec := "nicBound", unfollowed := true, recurses := true, apart := false }
def NicBoundSaid : Prop := nicBoundRow.holds Tryz.pinned (OpenSpec.ofChange nicBoundSpec)

/-- ITS FALSE NEIGHBOUR: 'it returns false'. Refute it at one input. -/
def nicBoundWrong : ChangeSpec := { name := "nicBound", fn := fun _ => fun
  | [d1, d2, d3] => { results := [.lit (.bool false)], args := [d1, d2, d3] }
  | _ => none }
def NicBoundWrongFalsely : Prop := nicBoundRow.holds Tryz.pinned (OpenSpec.ofChange nicBoundWrong)

/-- 'hermitagelaw27.NicPlays': WHATEVER THE INPUT: true; the input reads as it did. -/
def nicPlaysSpec : ChangeSpec := { name := "nicPlays", fn := fun _ => fun
  | [d1, d2, d3, d4, d5, d6] => { results := [.lit (.bool true)], args := [d1, d2, d3, d4, d5, d6] }
  | _ => none }
def nicPlaysRow : OpenClaim := { program := "ytechkfopkpkigaagreat", sum := "ba7262495b4edc79593ca19dacaee0d0530e5d2ce03e0080e1322392f3924b2a", func := "hermitage/hermitagelaw27.NicPlays", spec := "nicPlays", unfollowed := true, recurses := true, apart := false }
def NicPlaysSaid : Prop := nicPlaysRow.holds Tryz.pinned (OpenSpec.ofChange nicPlaysSpec)

/-- ITS FALSE NEIGHBOUR: 'it returns false'. Refute it at one input. -/
def nicPlaysWrong : ChangeSpec := { name := "nicPlays", fn := fun _ => fun
  | [d1, d2, d3, d4, d5, d6] => { results := [.lit (.bool false)], args := [d1, d2, d3, d4, d5, d6] }
  | _ => none }
def NicPlaysWrongFalsely : Prop := nicPlaysRow.holds Tryz.pinned (OpenSpec.ofChange nicPlaysWrong)

/- THE SECOND FORM. 'bulk': how many values and letters a reading holds, each counted each time it is reached (what is shared counts as often as it is met; a slice's spare places count too). A statement '..UptoSaid' is the law's where the arguments, and the package variables that the reading takes, are together of bulk at most 1048576: NARROWER than '..Said'. Prove '..Said' where nothing that the law and all that it calls make is longer than what came in: it says more and counts as full. Else prove '..UptoSaid'. A law counts once. -/
mutual
def uptoBulk {H : Type} : DataW H → Nat
  | .lit (.string bytes) => bytes.length + 1
  | .lit _ => 1
  | .nil => 1
  | .ptr d => uptoBulk d + 1
  | .slice elems spare => uptoBulkAll elems + uptoBulkAll spare + 1
  | .agg parts => uptoBulkAll parts + 1
  | .iface _ d => uptoBulk d + 1
  | .map entries => uptoBulkEntries entries + 1
  | .held _ => 1
def uptoBulkAll {H : Type} : List (DataW H) → Nat
  | [] => 0
  | d :: r => uptoBulk d + uptoBulkAll r
def uptoBulkEntries {H : Type} : List (Lit × DataW H) → Nat
  | [] => 0
  | x :: r => uptoBulkEntry x + uptoBulkEntries r
def uptoBulkEntry {H : Type} : Lit × DataW H → Nat
  | (.string bytes, d) => bytes.length + uptoBulk d + 1
  | (_, d) => uptoBulk d + 1
 end
def uptoSmall : (H : Type) → List (DataW H) → Bool := fun _ ds => decide (uptoBulkAll ds ≤ 1048576)
def OpenSpec.upto (s : _root_.Go.ChangeSpec) : _root_.Go.OpenSpec := { _root_.Go.OpenSpec.ofChange s with cond := some uptoSmall }

/-- 'hermitagelaw41.SightPlays', WHERE WHAT IT READS IS OF BULK AT MOST 1048576: true; the input reads as it did. -/
def sightPlaysUptoRow : OpenClaim := { program := "ytechkfopkpkigaagreat", sum := "ba7262495b4edc79593ca19dacaee0d0530e5d2ce03e0080e1322392f3924b2a", func := "hermitage/hermitagelaw41.SightPlays", spec := "sightPlays", inPlace := ["slices.overlaps[hermitage/api.Run]"], unfollowed := true, recurses := true, apart := false, narrowed := true }
def SightPlaysUptoSaid : Prop := sightPlaysUptoRow.holds Tryz.pinned (OpenSpec.upto sightPlaysSpec)

/-- 'hermitagelaw23.QueueBroken', WHERE WHAT IT READS IS OF BULK AT MOST 1048576: true; the input reads as it did. -/
def queueBrokenUptoRow : OpenClaim := { program := "ytechkfopkpkigaagreat", sum := "ba7262495b4edc79593ca19dacaee0d0530e5d2ce03e0080e1322392f3924b2a", func := "hermitage/hermitagelaw23.QueueBroken", spec := "queueBroken", unfollowed := true, recurses := true, apart := false, narrowed := true }
def QueueBrokenUptoSaid : Prop := queueBrokenUptoRow.holds Tryz.pinned (OpenSpec.upto queueBrokenSpec)

/-- 'hermitagelaw27.NicCarries', WHERE WHAT IT READS IS OF BULK AT MOST 1048576: true; the input reads as it did. -/
def nicCarriesUptoRow : OpenClaim := { program := "ytechkfopkpkigaagreat", sum := "ba7262495b4edc79593ca19dacaee0d0530e5d2ce03e0080e1322392f3924b2a", func := "hermitage/hermitagelaw27.NicCarries", spec := "nicCarries", unfollowed := true, recurses := true, apart := false, narrowed := true }
def NicCarriesUptoSaid : Prop := nicCarriesUptoRow.holds Tryz.pinned (OpenSpec.upto nicCarriesSpec)

/-- 'hermitagelaw27.NicWaits', WHERE WHAT IT READS IS OF BULK AT MOST 1048576: true; the input reads as it did. -/
def nicWaitsUptoRow : OpenClaim := { program := "ytechkfopkpkigaagreat", sum := "ba7262495b4edc79593ca19dacaee0d0530e5d2ce03e0080e1322392f3924b2a", func := "hermitage/hermitagelaw27.NicWaits", spec := "nicWaits", unfollowed := true, recurses := true, apart := false, narrowed := true }
def NicWaitsUptoSaid : Prop := nicWaitsUptoRow.holds Tryz.pinned (OpenSpec.upto nicWaitsSpec)

/-- 'hermitagelaw27.NicBound', WHERE WHAT IT READS IS OF BULK AT MOST 1048576: true; the input reads as it did. -/
def nicBoundUptoRow : OpenClaim := { program := "ytechkfopkpkigaagreat", sum := "ba7262495b4edc79593ca19dacaee0d0530e5d2ce03e0080e1322392f3924b2a", func := "hermitage/hermitagelaw27.NicBound", spec := "nicBound", unfollowed := true, recurses := true, apart := false, narrowed := true }
def NicBoundUptoSaid : Prop := nicBoundUptoRow.holds Tryz.pinned (OpenSpec.upto nicBoundSpec)

/-- 'hermitagelaw27.NicPlays', WHERE WHAT IT READS IS OF BULK AT MOST 1048576: true; the input reads as it did. -/
def nicPlaysUptoRow : OpenClaim := { program := "ytechkfopkpkigaagreat", sum := "ba7262495b4edc79593ca19dacaee0d0530e5d2ce03e0080e1322392f3924b2a", func := "hermitage/hermitagelaw27.NicPlays", spec := "nicPlays", unfollowed := true, recurses := true, apart := false, narrowed := true }
def NicPlaysUptoSaid : Prop := nicPlaysUptoRow.holds Tryz.pinned (OpenSpec.upto nicPlaysSpec)

end Rows
end Go.Proofs.YtechkfopkpkigaaGreat
