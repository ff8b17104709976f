/-
  No cell of these rows narrows 'for every input' (looked for: loops, veiled, ifaces, maps, wideKeys, modest, calm, conditions, laid).
  DERIVED. THE GIVEN ROWS OF THIS SEAT. 6 by the template 'for every input the law returns true; each argument reads behind the call as it read before'; 0 by the template 'total and deterministic' (their statements: YtechkfopkpkigaaTotals.lean).
  GIVEN WITH THE SEED: the statements are not yours to turn. If you find one false, say at which input.
  Laid BY PROGRAM, IN A SANDBOX (cutbox-rows.mjs): the forced cells as the released guide's own fill.sh prints them over the translation a989355588940667… (all of the seat's roots in one cut). By AI agents, Wed Nov 11 2026. No macro, syntax, notation, axiom, sorry.
-/
import Derived.Test.YtechkfopkpkigaaChecked
import GoSem.Claim
import GoSem.ClaimJoined
import GoSem.ClaimMapViews
import Derived.JoinedTies
import Derived.KernelRfl
namespace Go.Proofs.Ytechkfopkpkigaa
/- THE CELL 'sum', in the pinned program and in every row, IS THE sha256 OF THE DUMP (.gsa) THAT YtechkfopkpkigaaProg.lean LOADS. Nothing in Lean hashes anything: it is a label: what it is worth is what the hold of that sum in a sandbox is worth. -/
noncomputable def Try.pinned : Pinned := { name := "ytechkfopkpkigaa", sum := "a9893555889406671961739b5b75e85215ea5789b6fa9cc307ededa4a8017c2d", checked := Try.checked }
namespace Rows
def none {H : Type} : Left H := { results := [], args := [] }

/-- 'hermitagelaw23.QueueTurns': WHATEVER THE INPUT: true; the input reads as it did. -/
def queueTurnsSpec : ChangeSpec := { name := "queueTurns", fn := fun _ => fun
  | [d1, d2] => { results := [.lit (.bool true)], args := [d1, d2] }
  | _ => none }
def queueTurnsRow : OpenClaim := { program := "ytechkfopkpkigaa", sum := "a9893555889406671961739b5b75e85215ea5789b6fa9cc307ededa4a8017c2d", func := "hermitage/hermitagelaw23.QueueTurns", spec := "queueTurns", unfollowed := true, recurses := true, apart := false }
def QueueTurnsSaid : Prop := queueTurnsRow.holds Try.pinned (OpenSpec.ofChange queueTurnsSpec)

/-- ITS FALSE NEIGHBOUR: 'it returns false'. Refute it at one input. -/
def queueTurnsWrong : ChangeSpec := { name := "queueTurns", fn := fun _ => fun
  | [d1, d2] => { results := [.lit (.bool false)], args := [d1, d2] }
  | _ => none }
def QueueTurnsWrongFalsely : Prop := queueTurnsRow.holds Try.pinned (OpenSpec.ofChange queueTurnsWrong)

/-- 'hermitagelaw41.SightMore': WHATEVER THE INPUT: true; the input reads as it did. -/
def sightMoreSpec : ChangeSpec := { name := "sightMore", fn := fun _ => fun
  | [d1, d2, d3, d4, d5] => { results := [.lit (.bool true)], args := [d1, d2, d3, d4, d5] }
  | _ => none }
def sightMoreRow : OpenClaim := { program := "ytechkfopkpkigaa", sum := "a9893555889406671961739b5b75e85215ea5789b6fa9cc307ededa4a8017c2d", func := "hermitage/hermitagelaw41.SightMore", spec := "sightMore", inPlace := ["slices.overlaps[hermitage/api.Run]"], unfollowed := true, recurses := true, apart := false }
def SightMoreSaid : Prop := sightMoreRow.holds Try.pinned (OpenSpec.ofChange sightMoreSpec)

/-- ITS FALSE NEIGHBOUR: 'it returns false'. Refute it at one input. -/
def sightMoreWrong : ChangeSpec := { name := "sightMore", fn := fun _ => fun
  | [d1, d2, d3, d4, d5] => { results := [.lit (.bool false)], args := [d1, d2, d3, d4, d5] }
  | _ => none }
def SightMoreWrongFalsely : Prop := sightMoreRow.holds Try.pinned (OpenSpec.ofChange sightMoreWrong)

/-- 'hermitagelaw41.SightMix': WHATEVER THE INPUT: true; the input reads as it did. -/
def sightMixSpec : ChangeSpec := { name := "sightMix", fn := fun _ => fun
  | [d1, d2, d3, d4] => { results := [.lit (.bool true)], args := [d1, d2, d3, d4] }
  | _ => none }
def sightMixRow : OpenClaim := { program := "ytechkfopkpkigaa", sum := "a9893555889406671961739b5b75e85215ea5789b6fa9cc307ededa4a8017c2d", func := "hermitage/hermitagelaw41.SightMix", spec := "sightMix", inPlace := ["slices.overlaps[hermitage/api.Run]"], unfollowed := true, recurses := true, apart := false }
def SightMixSaid : Prop := sightMixRow.holds Try.pinned (OpenSpec.ofChange sightMixSpec)

/-- ITS FALSE NEIGHBOUR: 'it returns false'. Refute it at one input. -/
def sightMixWrong : ChangeSpec := { name := "sightMix", fn := fun _ => fun
  | [d1, d2, d3, d4] => { results := [.lit (.bool false)], args := [d1, d2, d3, d4] }
  | _ => none }
def SightMixWrongFalsely : Prop := sightMixRow.holds Try.pinned (OpenSpec.ofChange sightMixWrong)

/-- 'hermitagelaw18.StlbNarrow': WHATEVER THE INPUT: true; the input reads as it did. -/
def stlbNarrowSpec : ChangeSpec := { name := "stlbNarrow", fn := fun _ => fun
  | [d1, d2, d3] => { results := [.lit (.bool true)], args := [d1, d2, d3] }
  | _ => none }
def stlbNarrowRow : OpenClaim := { program := "ytechkfopkpkigaa", sum := "a9893555889406671961739b5b75e85215ea5789b6fa9cc307ededa4a8017c2d", func := "hermitage/hermitagelaw18.StlbNarrow", spec := "stlbNarrow", unfollowed := true, recurses := true, apart := false }
def StlbNarrowSaid : Prop := stlbNarrowRow.holds Try.pinned (OpenSpec.ofChange stlbNarrowSpec)

/-- ITS FALSE NEIGHBOUR: 'it returns false'. Refute it at one input. -/
def stlbNarrowWrong : ChangeSpec := { name := "stlbNarrow", fn := fun _ => fun
  | [d1, d2, d3] => { results := [.lit (.bool false)], args := [d1, d2, d3] }
  | _ => none }
def StlbNarrowWrongFalsely : Prop := stlbNarrowRow.holds Try.pinned (OpenSpec.ofChange stlbNarrowWrong)

/-- 'hermitagelaw18.StlbZero': WHATEVER THE INPUT: true; the input reads as it did. -/
def stlbZeroSpec : ChangeSpec := { name := "stlbZero", fn := fun _ => fun
  | [d1, d2] => { results := [.lit (.bool true)], args := [d1, d2] }
  | _ => none }
def stlbZeroRow : OpenClaim := { program := "ytechkfopkpkigaa", sum := "a9893555889406671961739b5b75e85215ea5789b6fa9cc307ededa4a8017c2d", func := "hermitage/hermitagelaw18.StlbZero", spec := "stlbZero", unfollowed := true, recurses := true, apart := false }
def StlbZeroSaid : Prop := stlbZeroRow.holds Try.pinned (OpenSpec.ofChange stlbZeroSpec)

/-- ITS FALSE NEIGHBOUR: 'it returns false'. Refute it at one input. -/
def stlbZeroWrong : ChangeSpec := { name := "stlbZero", fn := fun _ => fun
  | [d1, d2] => { results := [.lit (.bool false)], args := [d1, d2] }
  | _ => none }
def StlbZeroWrongFalsely : Prop := stlbZeroRow.holds Try.pinned (OpenSpec.ofChange stlbZeroWrong)

/-- 'hermitagelaw18.StlbPlays': WHATEVER THE INPUT: true; the input reads as it did. -/
def stlbPlaysSpec : ChangeSpec := { name := "stlbPlays", fn := fun _ => fun
  | [d1, d2, d3, d4] => { results := [.lit (.bool true)], args := [d1, d2, d3, d4] }
  | _ => none }
def stlbPlaysRow : OpenClaim := { program := "ytechkfopkpkigaa", sum := "a9893555889406671961739b5b75e85215ea5789b6fa9cc307ededa4a8017c2d", func := "hermitage/hermitagelaw18.StlbPlays", spec := "stlbPlays", unfollowed := true, recurses := true, apart := false }
def StlbPlaysSaid : Prop := stlbPlaysRow.holds Try.pinned (OpenSpec.ofChange stlbPlaysSpec)

/-- ITS FALSE NEIGHBOUR: 'it returns false'. Refute it at one input. -/
def stlbPlaysWrong : ChangeSpec := { name := "stlbPlays", fn := fun _ => fun
  | [d1, d2, d3, d4] => { results := [.lit (.bool false)], args := [d1, d2, d3, d4] }
  | _ => none }
def StlbPlaysWrongFalsely : Prop := stlbPlaysRow.holds Try.pinned (OpenSpec.ofChange stlbPlaysWrong)

/- THE SECOND FORM. 'bulk': how many values and letters a reading holds, each counted each time it is reached (what is shared counts as often as it is met; a slice's spare places count too). A statement '..UptoSaid' is the law's where the arguments, and the package variables that the reading takes, are together of bulk at most 1048576: NARROWER than '..Said'. Prove '..Said' where nothing that the law and all that it calls make is longer than what came in: it says more and counts as full. Else prove '..UptoSaid'. A law counts once. -/
mutual
def uptoBulk {H : Type} : DataW H → Nat
  | .lit (.string bytes) => bytes.length + 1
  | .lit _ => 1
  | .nil => 1
  | .ptr d => uptoBulk d + 1
  | .slice elems spare => uptoBulkAll elems + uptoBulkAll spare + 1
  | .agg parts => uptoBulkAll parts + 1
  | .iface _ d => uptoBulk d + 1
  | .map entries => uptoBulkEntries entries + 1
  | .held _ => 1
def uptoBulkAll {H : Type} : List (DataW H) → Nat
  | [] => 0
  | d :: r => uptoBulk d + uptoBulkAll r
def uptoBulkEntries {H : Type} : List (Lit × DataW H) → Nat
  | [] => 0
  | x :: r => uptoBulkEntry x + uptoBulkEntries r
def uptoBulkEntry {H : Type} : Lit × DataW H → Nat
  | (.string bytes, d) => bytes.length + uptoBulk d + 1
  | (_, d) => uptoBulk d + 1
 end
def uptoSmall : (H : Type) → List (DataW H) → Bool := fun _ ds => decide (uptoBulkAll ds ≤ 1048576)
def OpenSpec.upto (s : _root_.Go.ChangeSpec) : _root_.Go.OpenSpec := { _root_.Go.OpenSpec.ofChange s with cond := some uptoSmall }

/-- 'hermitagelaw23.QueueTurns', WHERE WHAT IT READS IS OF BULK AT MOST 1048576: true; the input reads as it did. -/
def queueTurnsUptoRow : OpenClaim := { program := "ytechkfopkpkigaa", sum := "a9893555889406671961739b5b75e85215ea5789b6fa9cc307ededa4a8017c2d", func := "hermitage/hermitagelaw23.QueueTurns", spec := "queueTurns", unfollowed := true, recurses := true, apart := false, narrowed := true }
def QueueTurnsUptoSaid : Prop := queueTurnsUptoRow.holds Try.pinned (OpenSpec.upto queueTurnsSpec)

/-- 'hermitagelaw41.SightMore', WHERE WHAT IT READS IS OF BULK AT MOST 1048576: true; the input reads as it did. -/
def sightMoreUptoRow : OpenClaim := { program := "ytechkfopkpkigaa", sum := "a9893555889406671961739b5b75e85215ea5789b6fa9cc307ededa4a8017c2d", func := "hermitage/hermitagelaw41.SightMore", spec := "sightMore", inPlace := ["slices.overlaps[hermitage/api.Run]"], unfollowed := true, recurses := true, apart := false, narrowed := true }
def SightMoreUptoSaid : Prop := sightMoreUptoRow.holds Try.pinned (OpenSpec.upto sightMoreSpec)

/-- 'hermitagelaw41.SightMix', WHERE WHAT IT READS IS OF BULK AT MOST 1048576: true; the input reads as it did. -/
def sightMixUptoRow : OpenClaim := { program := "ytechkfopkpkigaa", sum := "a9893555889406671961739b5b75e85215ea5789b6fa9cc307ededa4a8017c2d", func := "hermitage/hermitagelaw41.SightMix", spec := "sightMix", inPlace := ["slices.overlaps[hermitage/api.Run]"], unfollowed := true, recurses := true, apart := false, narrowed := true }
def SightMixUptoSaid : Prop := sightMixUptoRow.holds Try.pinned (OpenSpec.upto sightMixSpec)

/-- 'hermitagelaw18.StlbNarrow', WHERE WHAT IT READS IS OF BULK AT MOST 1048576: true; the input reads as it did. -/
def stlbNarrowUptoRow : OpenClaim := { program := "ytechkfopkpkigaa", sum := "a9893555889406671961739b5b75e85215ea5789b6fa9cc307ededa4a8017c2d", func := "hermitage/hermitagelaw18.StlbNarrow", spec := "stlbNarrow", unfollowed := true, recurses := true, apart := false, narrowed := true }
def StlbNarrowUptoSaid : Prop := stlbNarrowUptoRow.holds Try.pinned (OpenSpec.upto stlbNarrowSpec)

/-- 'hermitagelaw18.StlbZero', WHERE WHAT IT READS IS OF BULK AT MOST 1048576: true; the input reads as it did. -/
def stlbZeroUptoRow : OpenClaim := { program := "ytechkfopkpkigaa", sum := "a9893555889406671961739b5b75e85215ea5789b6fa9cc307ededa4a8017c2d", func := "hermitage/hermitagelaw18.StlbZero", spec := "stlbZero", unfollowed := true, recurses := true, apart := false, narrowed := true }
def StlbZeroUptoSaid : Prop := stlbZeroUptoRow.holds Try.pinned (OpenSpec.upto stlbZeroSpec)

/-- 'hermitagelaw18.StlbPlays', WHERE WHAT IT READS IS OF BULK AT MOST 1048576: true; the input reads as it did. -/
def stlbPlaysUptoRow : OpenClaim := { program := "ytechkfopkpkigaa", sum := "a9893555889406671961739b5b75e85215ea5789b6fa9cc307ededa4a8017c2d", func := "hermitage/hermitagelaw18.StlbPlays", spec := "stlbPlays", unfollowed := true, recurses := true, apart := false, narrowed := true }
def StlbPlaysUptoSaid : Prop := stlbPlaysUptoRow.holds Try.pinned (OpenSpec.upto stlbPlaysSpec)

end Rows
end Go.Proofs.Ytechkfopkpkigaa
