/-
  No cell of these rows narrows 'for every input' (looked for: loops, veiled, ifaces, maps, wideKeys, modest, calm, conditions, laid).
  DERIVED. THE GIVEN ROWS OF THIS SEAT. 12 by the template 'for every input the law returns true; each argument reads behind the call as it read before'; 0 by the template 'total and deterministic' (their statements: YtpmacnfjafpdcaaTotals.lean).
  GIVEN WITH THE SEED: the statements are not yours to turn. If you find one false, say at which input.
  Laid BY PROGRAM, IN A SANDBOX (cutbox-rows.mjs): the forced cells as the released guide's own fill.sh prints them over the translation ba67c702a10e4419… (all of the seat's roots in one cut). By AI agents, Wed Nov 11 2026. No macro, syntax, notation, axiom, sorry.
-/
import Derived.Test.YtpmacnfjafpdcaaChecked
import GoSem.Claim
import GoSem.ClaimJoined
import GoSem.ClaimMapViews
import Derived.JoinedTies
import Derived.KernelRfl
namespace Go.Proofs.Ytpmacnfjafpdcaa
/- THE CELL 'sum', in the pinned program and in every row, IS THE sha256 OF THE DUMP (.gsa) THAT YtpmacnfjafpdcaaProg.lean LOADS. Nothing in Lean hashes anything: it is a label: what it is worth is what the hold of that sum in a sandbox is worth. -/
noncomputable def Try.pinned : Pinned := { name := "ytpmacnfjafpdcaa", sum := "ba67c702a10e44198941c6ad68cf6a6766d187809fd108afa908cd249bc93ee4", checked := Try.checked }
namespace Rows
def none {H : Type} : Left H := { results := [], args := [] }

/-- 'hermitagelaw14.PteBack': WHATEVER THE INPUT: true; the input reads as it did. -/
def pteBackSpec : ChangeSpec := { name := "pteBack", fn := fun _ => fun
  | [d1, d2] => { results := [.lit (.bool true)], args := [d1, d2] }
  | _ => none }
def pteBackRow : OpenClaim := { program := "ytpmacnfjafpdcaa", sum := "ba67c702a10e44198941c6ad68cf6a6766d187809fd108afa908cd249bc93ee4", func := "hermitage/hermitagelaw14.PteBack", spec := "pteBack", apart := false }
def PteBackSaid : Prop := pteBackRow.holds Try.pinned (OpenSpec.ofChange pteBackSpec)

/-- ITS FALSE NEIGHBOUR: 'it returns false'. Refute it at one input. -/
def pteBackWrong : ChangeSpec := { name := "pteBack", fn := fun _ => fun
  | [d1, d2] => { results := [.lit (.bool false)], args := [d1, d2] }
  | _ => none }
def PteBackWrongFalsely : Prop := pteBackRow.holds Try.pinned (OpenSpec.ofChange pteBackWrong)

/-- 'hermitagelaw14.PteLevels': WHATEVER THE INPUT: true; the input reads as it did. -/
def pteLevelsSpec : ChangeSpec := { name := "pteLevels", fn := fun _ => fun
  | [d] => { results := [.lit (.bool true)], args := [d] }
  | _ => none }
def pteLevelsRow : OpenClaim := { program := "ytpmacnfjafpdcaa", sum := "ba67c702a10e44198941c6ad68cf6a6766d187809fd108afa908cd249bc93ee4", func := "hermitage/hermitagelaw14.PteLevels", spec := "pteLevels", apart := false }
def PteLevelsSaid : Prop := pteLevelsRow.holds Try.pinned (OpenSpec.ofChange pteLevelsSpec)

/-- ITS FALSE NEIGHBOUR: 'it returns false'. Refute it at one input. -/
def pteLevelsWrong : ChangeSpec := { name := "pteLevels", fn := fun _ => fun
  | [d] => { results := [.lit (.bool false)], args := [d] }
  | _ => none }
def PteLevelsWrongFalsely : Prop := pteLevelsRow.holds Try.pinned (OpenSpec.ofChange pteLevelsWrong)

/-- 'hermitagelaw14.PteMore': WHATEVER THE INPUT: true; the input reads as it did. -/
def pteMoreSpec : ChangeSpec := { name := "pteMore", fn := fun _ => fun
  | [d1, d2, d3, d4, d5] => { results := [.lit (.bool true)], args := [d1, d2, d3, d4, d5] }
  | _ => none }
def pteMoreRow : OpenClaim := { program := "ytpmacnfjafpdcaa", sum := "ba67c702a10e44198941c6ad68cf6a6766d187809fd108afa908cd249bc93ee4", func := "hermitage/hermitagelaw14.PteMore", spec := "pteMore", apart := false }
def PteMoreSaid : Prop := pteMoreRow.holds Try.pinned (OpenSpec.ofChange pteMoreSpec)

/-- ITS FALSE NEIGHBOUR: 'it returns false'. Refute it at one input. -/
def pteMoreWrong : ChangeSpec := { name := "pteMore", fn := fun _ => fun
  | [d1, d2, d3, d4, d5] => { results := [.lit (.bool false)], args := [d1, d2, d3, d4, d5] }
  | _ => none }
def PteMoreWrongFalsely : Prop := pteMoreRow.holds Try.pinned (OpenSpec.ofChange pteMoreWrong)

/-- 'hermitagelaw14.PtePlays': WHATEVER THE INPUT: true; the input reads as it did. -/
def ptePlaysSpec : ChangeSpec := { name := "ptePlays", fn := fun _ => fun
  | [d1, d2, d3, d4] => { results := [.lit (.bool true)], args := [d1, d2, d3, d4] }
  | _ => none }
def ptePlaysRow : OpenClaim := { program := "ytpmacnfjafpdcaa", sum := "ba67c702a10e44198941c6ad68cf6a6766d187809fd108afa908cd249bc93ee4", func := "hermitage/hermitagelaw14.PtePlays", spec := "ptePlays", apart := false }
def PtePlaysSaid : Prop := ptePlaysRow.holds Try.pinned (OpenSpec.ofChange ptePlaysSpec)

/-- ITS FALSE NEIGHBOUR: 'it returns false'. Refute it at one input. -/
def ptePlaysWrong : ChangeSpec := { name := "ptePlays", fn := fun _ => fun
  | [d1, d2, d3, d4] => { results := [.lit (.bool false)], args := [d1, d2, d3, d4] }
  | _ => none }
def PtePlaysWrongFalsely : Prop := ptePlaysRow.holds Try.pinned (OpenSpec.ofChange ptePlaysWrong)

/-- 'hermitagelaw18.StlbUsed': WHATEVER THE INPUT: true; the input reads as it did. -/
def stlbUsedSpec : ChangeSpec := { name := "stlbUsed", fn := fun _ => fun
  | [d1, d2, d3, d4] => { results := [.lit (.bool true)], args := [d1, d2, d3, d4] }
  | _ => none }
def stlbUsedRow : OpenClaim := { program := "ytpmacnfjafpdcaa", sum := "ba67c702a10e44198941c6ad68cf6a6766d187809fd108afa908cd249bc93ee4", func := "hermitage/hermitagelaw18.StlbUsed", spec := "stlbUsed", unfollowed := true, recurses := true, apart := false }
def StlbUsedSaid : Prop := stlbUsedRow.holds Try.pinned (OpenSpec.ofChange stlbUsedSpec)

/-- ITS FALSE NEIGHBOUR: 'it returns false'. Refute it at one input. -/
def stlbUsedWrong : ChangeSpec := { name := "stlbUsed", fn := fun _ => fun
  | [d1, d2, d3, d4] => { results := [.lit (.bool false)], args := [d1, d2, d3, d4] }
  | _ => none }
def StlbUsedWrongFalsely : Prop := stlbUsedRow.holds Try.pinned (OpenSpec.ofChange stlbUsedWrong)

/-- 'hermitagelaw18.StlbRoom': WHATEVER THE INPUT: true; the input reads as it did. -/
def stlbRoomSpec : ChangeSpec := { name := "stlbRoom", fn := fun _ => fun
  | [d1, d2, d3] => { results := [.lit (.bool true)], args := [d1, d2, d3] }
  | _ => none }
def stlbRoomRow : OpenClaim := { program := "ytpmacnfjafpdcaa", sum := "ba67c702a10e44198941c6ad68cf6a6766d187809fd108afa908cd249bc93ee4", func := "hermitage/hermitagelaw18.StlbRoom", spec := "stlbRoom", unfollowed := true, recurses := true, apart := false }
def StlbRoomSaid : Prop := stlbRoomRow.holds Try.pinned (OpenSpec.ofChange stlbRoomSpec)

/-- ITS FALSE NEIGHBOUR: 'it returns false'. Refute it at one input. -/
def stlbRoomWrong : ChangeSpec := { name := "stlbRoom", fn := fun _ => fun
  | [d1, d2, d3] => { results := [.lit (.bool false)], args := [d1, d2, d3] }
  | _ => none }
def StlbRoomWrongFalsely : Prop := stlbRoomRow.holds Try.pinned (OpenSpec.ofChange stlbRoomWrong)

/-- 'hermitagelaw16.ViewOwn': WHATEVER THE INPUT: true; the input reads as it did. -/
def viewOwnSpec : ChangeSpec := { name := "viewOwn", fn := fun _ => fun
  | [d1, d2, d3, d4, d5] => { results := [.lit (.bool true)], args := [d1, d2, d3, d4, d5] }
  | _ => none }
def viewOwnRow : OpenClaim := { program := "ytpmacnfjafpdcaa", sum := "ba67c702a10e44198941c6ad68cf6a6766d187809fd108afa908cd249bc93ee4", func := "hermitage/hermitagelaw16.ViewOwn", spec := "viewOwn", unfollowed := true, recurses := true, apart := false }
def ViewOwnSaid : Prop := viewOwnRow.holds Try.pinned (OpenSpec.ofChange viewOwnSpec)

/-- ITS FALSE NEIGHBOUR: 'it returns false'. Refute it at one input. -/
def viewOwnWrong : ChangeSpec := { name := "viewOwn", fn := fun _ => fun
  | [d1, d2, d3, d4, d5] => { results := [.lit (.bool false)], args := [d1, d2, d3, d4, d5] }
  | _ => none }
def ViewOwnWrongFalsely : Prop := viewOwnRow.holds Try.pinned (OpenSpec.ofChange viewOwnWrong)

/-- 'hermitagelaw16.ViewZero': WHATEVER THE INPUT: true; the input reads as it did. -/
def viewZeroSpec : ChangeSpec := { name := "viewZero", fn := fun _ => fun
  | [d1, d2, d3, d4, d5] => { results := [.lit (.bool true)], args := [d1, d2, d3, d4, d5] }
  | _ => none }
def viewZeroRow : OpenClaim := { program := "ytpmacnfjafpdcaa", sum := "ba67c702a10e44198941c6ad68cf6a6766d187809fd108afa908cd249bc93ee4", func := "hermitage/hermitagelaw16.ViewZero", spec := "viewZero", unfollowed := true, recurses := true, apart := false }
def ViewZeroSaid : Prop := viewZeroRow.holds Try.pinned (OpenSpec.ofChange viewZeroSpec)

/-- ITS FALSE NEIGHBOUR: 'it returns false'. Refute it at one input. -/
def viewZeroWrong : ChangeSpec := { name := "viewZero", fn := fun _ => fun
  | [d1, d2, d3, d4, d5] => { results := [.lit (.bool false)], args := [d1, d2, d3, d4, d5] }
  | _ => none }
def ViewZeroWrongFalsely : Prop := viewZeroRow.holds Try.pinned (OpenSpec.ofChange viewZeroWrong)

/-- 'hermitagelaw16.ViewPlays': WHATEVER THE INPUT: true; the input reads as it did. -/
def viewPlaysSpec : ChangeSpec := { name := "viewPlays", fn := fun _ => fun
  | [d1, d2, d3, d4] => { results := [.lit (.bool true)], args := [d1, d2, d3, d4] }
  | _ => none }
def viewPlaysRow : OpenClaim := { program := "ytpmacnfjafpdcaa", sum := "ba67c702a10e44198941c6ad68cf6a6766d187809fd108afa908cd249bc93ee4", func := "hermitage/hermitagelaw16.ViewPlays", spec := "viewPlays", unfollowed := true, recurses := true, apart := false }
def ViewPlaysSaid : Prop := viewPlaysRow.holds Try.pinned (OpenSpec.ofChange viewPlaysSpec)

/-- ITS FALSE NEIGHBOUR: 'it returns false'. Refute it at one input. -/
def viewPlaysWrong : ChangeSpec := { name := "viewPlays", fn := fun _ => fun
  | [d1, d2, d3, d4] => { results := [.lit (.bool false)], args := [d1, d2, d3, d4] }
  | _ => none }
def ViewPlaysWrongFalsely : Prop := viewPlaysRow.holds Try.pinned (OpenSpec.ofChange viewPlaysWrong)

/-- 'hermitagelaw16.ViewBack': WHATEVER THE INPUT: true; the input reads as it did. -/
def viewBackSpec : ChangeSpec := { name := "viewBack", fn := fun _ => fun
  | [d1, d2, d3, d4, d5, d6] => { results := [.lit (.bool true)], args := [d1, d2, d3, d4, d5, d6] }
  | _ => none }
def viewBackRow : OpenClaim := { program := "ytpmacnfjafpdcaa", sum := "ba67c702a10e44198941c6ad68cf6a6766d187809fd108afa908cd249bc93ee4", func := "hermitage/hermitagelaw16.ViewBack", spec := "viewBack", unfollowed := true, recurses := true, apart := false }
def ViewBackSaid : Prop := viewBackRow.holds Try.pinned (OpenSpec.ofChange viewBackSpec)

/-- ITS FALSE NEIGHBOUR: 'it returns false'. Refute it at one input. -/
def viewBackWrong : ChangeSpec := { name := "viewBack", fn := fun _ => fun
  | [d1, d2, d3, d4, d5, d6] => { results := [.lit (.bool false)], args := [d1, d2, d3, d4, d5, d6] }
  | _ => none }
def ViewBackWrongFalsely : Prop := viewBackRow.holds Try.pinned (OpenSpec.ofChange viewBackWrong)

/-- 'hermitagelaw22.ChainWalks': WHATEVER THE INPUT: true; the input reads as it did. -/
def chainWalksSpec : ChangeSpec := { name := "chainWalks", fn := fun _ => fun
  | [d1, d2, d3, d4] => { results := [.lit (.bool true)], args := [d1, d2, d3, d4] }
  | _ => none }
def chainWalksRow : OpenClaim := { program := "ytpmacnfjafpdcaa", sum := "ba67c702a10e44198941c6ad68cf6a6766d187809fd108afa908cd249bc93ee4", func := "hermitage/hermitagelaw22.ChainWalks", spec := "chainWalks", unfollowed := true, recurses := true, apart := false }
def ChainWalksSaid : Prop := chainWalksRow.holds Try.pinned (OpenSpec.ofChange chainWalksSpec)

/-- ITS FALSE NEIGHBOUR: 'it returns false'. Refute it at one input. -/
def chainWalksWrong : ChangeSpec := { name := "chainWalks", fn := fun _ => fun
  | [d1, d2, d3, d4] => { results := [.lit (.bool false)], args := [d1, d2, d3, d4] }
  | _ => none }
def ChainWalksWrongFalsely : Prop := chainWalksRow.holds Try.pinned (OpenSpec.ofChange chainWalksWrong)

/-- 'hermitagelaw22.ChainBounds': WHATEVER THE INPUT: true; the input reads as it did. -/
def chainBoundsSpec : ChangeSpec := { name := "chainBounds", fn := fun _ => fun
  | [d1, d2, d3, d4] => { results := [.lit (.bool true)], args := [d1, d2, d3, d4] }
  | _ => none }
def chainBoundsRow : OpenClaim := { program := "ytpmacnfjafpdcaa", sum := "ba67c702a10e44198941c6ad68cf6a6766d187809fd108afa908cd249bc93ee4", func := "hermitage/hermitagelaw22.ChainBounds", spec := "chainBounds", unfollowed := true, recurses := true, apart := false }
def ChainBoundsSaid : Prop := chainBoundsRow.holds Try.pinned (OpenSpec.ofChange chainBoundsSpec)

/-- ITS FALSE NEIGHBOUR: 'it returns false'. Refute it at one input. -/
def chainBoundsWrong : ChangeSpec := { name := "chainBounds", fn := fun _ => fun
  | [d1, d2, d3, d4] => { results := [.lit (.bool false)], args := [d1, d2, d3, d4] }
  | _ => none }
def ChainBoundsWrongFalsely : Prop := chainBoundsRow.holds Try.pinned (OpenSpec.ofChange chainBoundsWrong)

/- THE SECOND FORM. 'bulk': how many values and letters a reading holds, each counted each time it is reached (what is shared counts as often as it is met; a slice's spare places count too). A statement '..UptoSaid' is the law's where the arguments, and the package variables that the reading takes, are together of bulk at most 1048576: NARROWER than '..Said'. Prove '..Said' where nothing that the law and all that it calls make is longer than what came in: it says more and counts as full. Else prove '..UptoSaid'. A law counts once. -/
mutual
def uptoBulk {H : Type} : DataW H → Nat
  | .lit (.string bytes) => bytes.length + 1
  | .lit _ => 1
  | .nil => 1
  | .ptr d => uptoBulk d + 1
  | .slice elems spare => uptoBulkAll elems + uptoBulkAll spare + 1
  | .agg parts => uptoBulkAll parts + 1
  | .iface _ d => uptoBulk d + 1
  | .map entries => uptoBulkEntries entries + 1
  | .held _ => 1
def uptoBulkAll {H : Type} : List (DataW H) → Nat
  | [] => 0
  | d :: r => uptoBulk d + uptoBulkAll r
def uptoBulkEntries {H : Type} : List (Lit × DataW H) → Nat
  | [] => 0
  | x :: r => uptoBulkEntry x + uptoBulkEntries r
def uptoBulkEntry {H : Type} : Lit × DataW H → Nat
  | (.string bytes, d) => bytes.length + uptoBulk d + 1
  | (_, d) => uptoBulk d + 1
 end
def uptoSmall : (H : Type) → List (DataW H) → Bool := fun _ ds => decide (uptoBulkAll ds ≤ 1048576)
def OpenSpec.upto (s : _root_.Go.ChangeSpec) : _root_.Go.OpenSpec := { _root_.Go.OpenSpec.ofChange s with cond := some uptoSmall }

/-- 'hermitagelaw14.PteBack', WHERE WHAT IT READS IS OF BULK AT MOST 1048576: true; the input reads as it did. -/
def pteBackUptoRow : OpenClaim := { program := "ytpmacnfjafpdcaa", sum := "ba67c702a10e44198941c6ad68cf6a6766d187809fd108afa908cd249bc93ee4", func := "hermitage/hermitagelaw14.PteBack", spec := "pteBack", apart := false, narrowed := true }
def PteBackUptoSaid : Prop := pteBackUptoRow.holds Try.pinned (OpenSpec.upto pteBackSpec)

/-- 'hermitagelaw14.PteLevels', WHERE WHAT IT READS IS OF BULK AT MOST 1048576: true; the input reads as it did. -/
def pteLevelsUptoRow : OpenClaim := { program := "ytpmacnfjafpdcaa", sum := "ba67c702a10e44198941c6ad68cf6a6766d187809fd108afa908cd249bc93ee4", func := "hermitage/hermitagelaw14.PteLevels", spec := "pteLevels", apart := false, narrowed := true }
def PteLevelsUptoSaid : Prop := pteLevelsUptoRow.holds Try.pinned (OpenSpec.upto pteLevelsSpec)

/-- 'hermitagelaw14.PteMore', WHERE WHAT IT READS IS OF BULK AT MOST 1048576: true; the input reads as it did. -/
def pteMoreUptoRow : OpenClaim := { program := "ytpmacnfjafpdcaa", sum := "ba67c702a10e44198941c6ad68cf6a6766d187809fd108afa908cd249bc93ee4", func := "hermitage/hermitagelaw14.PteMore", spec := "pteMore", apart := false, narrowed := true }
def PteMoreUptoSaid : Prop := pteMoreUptoRow.holds Try.pinned (OpenSpec.upto pteMoreSpec)

/-- 'hermitagelaw14.PtePlays', WHERE WHAT IT READS IS OF BULK AT MOST 1048576: true; the input reads as it did. -/
def ptePlaysUptoRow : OpenClaim := { program := "ytpmacnfjafpdcaa", sum := "ba67c702a10e44198941c6ad68cf6a6766d187809fd108afa908cd249bc93ee4", func := "hermitage/hermitagelaw14.PtePlays", spec := "ptePlays", apart := false, narrowed := true }
def PtePlaysUptoSaid : Prop := ptePlaysUptoRow.holds Try.pinned (OpenSpec.upto ptePlaysSpec)

/-- 'hermitagelaw18.StlbUsed', WHERE WHAT IT READS IS OF BULK AT MOST 1048576: true; the input reads as it did. -/
def stlbUsedUptoRow : OpenClaim := { program := "ytpmacnfjafpdcaa", sum := "ba67c702a10e44198941c6ad68cf6a6766d187809fd108afa908cd249bc93ee4", func := "hermitage/hermitagelaw18.StlbUsed", spec := "stlbUsed", unfollowed := true, recurses := true, apart := false, narrowed := true }
def StlbUsedUptoSaid : Prop := stlbUsedUptoRow.holds Try.pinned (OpenSpec.upto stlbUsedSpec)

/-- 'hermitagelaw18.StlbRoom', WHERE WHAT IT READS IS OF BULK AT MOST 1048576: true; the input reads as it did. -/
def stlbRoomUptoRow : OpenClaim := { program := "ytpmacnfjafpdcaa", sum := "ba67c702a10e44198941c6ad68cf6a6766d187809fd108afa908cd249bc93ee4", func := "hermitage/hermitagelaw18.StlbRoom", spec := "stlbRoom", unfollowed := true, recurses := true, apart := false, narrowed := true }
def StlbRoomUptoSaid : Prop := stlbRoomUptoRow.holds Try.pinned (OpenSpec.upto stlbRoomSpec)

/-- 'hermitagelaw16.ViewOwn', WHERE WHAT IT READS IS OF BULK AT MOST 1048576: true; the input reads as it did. -/
def viewOwnUptoRow : OpenClaim := { program := "ytpmacnfjafpdcaa", sum := "ba67c702a10e44198941c6ad68cf6a6766d187809fd108afa908cd249bc93ee4", func := "hermitage/hermitagelaw16.ViewOwn", spec := "viewOwn", unfollowed := true, recurses := true, apart := false, narrowed := true }
def ViewOwnUptoSaid : Prop := viewOwnUptoRow.holds Try.pinned (OpenSpec.upto viewOwnSpec)

/-- 'hermitagelaw16.ViewZero', WHERE WHAT IT READS IS OF BULK AT MOST 1048576: true; the input reads as it did. -/
def viewZeroUptoRow : OpenClaim := { program := "ytpmacnfjafpdcaa", sum := "ba67c702a10e44198941c6ad68cf6a6766d187809fd108afa908cd249bc93ee4", func := "hermitage/hermitagelaw16.ViewZero", spec := "viewZero", unfollowed := true, recurses := true, apart := false, narrowed := true }
def ViewZeroUptoSaid : Prop := viewZeroUptoRow.holds Try.pinned (OpenSpec.upto viewZeroSpec)

/-- 'hermitagelaw16.ViewPlays', WHERE WHAT IT READS IS OF BULK AT MOST 1048576: true; the input reads as it did. -/
def viewPlaysUptoRow : OpenClaim := { program := "ytpmacnfjafpdcaa", sum := "ba67c702a10e44198941c6ad68cf6a6766d187809fd108afa908cd249bc93ee4", func := "hermitage/hermitagelaw16.ViewPlays", spec := "viewPlays", unfollowed := true, recurses := true, apart := false, narrowed := true }
def ViewPlaysUptoSaid : Prop := viewPlaysUptoRow.holds Try.pinned (OpenSpec.upto viewPlaysSpec)

/-- 'hermitagelaw16.ViewBack', WHERE WHAT IT READS IS OF BULK AT MOST 1048576: true; the input reads as it did. -/
def viewBackUptoRow : OpenClaim := { program := "ytpmacnfjafpdcaa", sum := "ba67c702a10e44198941c6ad68cf6a6766d187809fd108afa908cd249bc93ee4", func := "hermitage/hermitagelaw16.ViewBack", spec := "viewBack", unfollowed := true, recurses := true, apart := false, narrowed := true }
def ViewBackUptoSaid : Prop := viewBackUptoRow.holds Try.pinned (OpenSpec.upto viewBackSpec)

/-- 'hermitagelaw22.ChainWalks', WHERE WHAT IT READS IS OF BULK AT MOST 1048576: true; the input reads as it did. -/
def chainWalksUptoRow : OpenClaim := { program := "ytpmacnfjafpdcaa", sum := "ba67c702a10e44198941c6ad68cf6a6766d187809fd108afa908cd249bc93ee4", func := "hermitage/hermitagelaw22.ChainWalks", spec := "chainWalks", unfollowed := true, recurses := true, apart := false, narrowed := true }
def ChainWalksUptoSaid : Prop := chainWalksUptoRow.holds Try.pinned (OpenSpec.upto chainWalksSpec)

/-- 'hermitagelaw22.ChainBounds', WHERE WHAT IT READS IS OF BULK AT MOST 1048576: true; the input reads as it did. -/
def chainBoundsUptoRow : OpenClaim := { program := "ytpmacnfjafpdcaa", sum := "ba67c702a10e44198941c6ad68cf6a6766d187809fd108afa908cd249bc93ee4", func := "hermitage/hermitagelaw22.ChainBounds", spec := "chainBounds", unfollowed := true, recurses := true, apart := false, narrowed := true }
def ChainBoundsUptoSaid : Prop := chainBoundsUptoRow.holds Try.pinned (OpenSpec.upto chainBoundsSpec)

end Rows
end Go.Proofs.Ytpmacnfjafpdcaa
