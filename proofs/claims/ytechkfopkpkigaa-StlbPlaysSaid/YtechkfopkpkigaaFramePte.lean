/-
  What the arguments of layer 14's laws are.
-/
import Derived.Test.YtechkfopkpkigaaFrame
namespace Go.Proofs.Ytechkfopkpkigaa
open Go.ChangeShapes Go.WideShapes Go.ChangeAt Go.RowKit
set_option linter.unusedSimpArgs false
set_option linter.unusedVariables false

variable {W : World} {v : Value}
theorem list3 {l : List Value} (h : l.length = 3) : ∃ a b c, l = [a, b, c] := by
  match l, h with
  | [a, b, c], _ => exact ⟨a, b, c, rfl⟩
end Go.Proofs.Ytechkfopkpkigaa
