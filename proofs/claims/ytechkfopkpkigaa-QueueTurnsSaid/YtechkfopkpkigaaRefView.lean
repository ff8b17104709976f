/-
  The reference of layer 16: finding, numbers.
-/
import Derived.Test.YtechkfopkpkigaaViewC
import Derived.Test.YtechkfopkpkigaaRefFramesB
import Derived.Test.YtechkfopkpkigaaRefGmap
namespace Go.Proofs.Ytechkfopkpkigaa
open Go.RowKit
set_option linter.unusedSimpArgs false
set_option linter.unusedVariables false
set_option maxRecDepth 20000

theorem isF_iff {n : Nat} {f : Int} : isF n f = true ↔ 0 ≤ f ∧ f < n := by simp [isF]
def wrV (d : Nat) : List Value := (List.range 12).map (fun i => .bool (Nat.testBit d i))
abbrev rvO (qs qm d : Nat) : Obj := cob (.pointer (some ⟨qs, 0, none⟩) :: .pointer (some ⟨qm, 0, none⟩) :: wrV d) 121
end Go.Proofs.Ytechkfopkpkigaa
