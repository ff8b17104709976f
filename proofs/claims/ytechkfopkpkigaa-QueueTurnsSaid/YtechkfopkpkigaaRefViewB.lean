/-
  The reference of layer 16: Load, Save.
-/
import Derived.Test.YtechkfopkpkigaaRefView
namespace Go.Proofs.Ytechkfopkpkigaa
open Go.RowKit
set_option linter.unusedSimpArgs false
set_option linter.unusedVariables false
set_option maxRecDepth 20000

theorem wr_set {a b : Value} {d n : Nat} (h : n < 12) : (a :: b :: wrV d).set (2 + n * 1) (.bool true) = a :: b :: wrV (d ||| 2 ^ n) := by
  rw [show 2 + n * 1 = n + 1 + 1 by omega, List.set_cons_succ, List.set_cons_succ]
  congr 2
  apply List.ext_getElem
  · simp [wrV]
  · intro i h1 h2
    have hi : i < 12 := by simpa [wrV] using h2
    by_cases e : n = i
    · subst e; simp [wrV, Nat.testBit_or, Nat.testBit_two_pow_self]
    · simp [wrV, List.getElem_set, e, Nat.testBit_or, Nat.testBit_two_pow_of_ne e]
end Go.Proofs.Ytechkfopkpkigaa
