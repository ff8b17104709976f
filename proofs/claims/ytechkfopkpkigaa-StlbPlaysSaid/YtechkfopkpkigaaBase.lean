/-
  What is said of the program at large.
-/
import Derived.Test.YtechkfopkpkigaaProg
import Derived.Test.YtechkfopkpkigaaBits
import Derived.Test.YtechkfopkpkigaaMore
namespace Go.Proofs.Ytechkfopkpkigaa
open Go.RowKit
theorem mixed : Try.prog.follows .mixedOrders = true := by kernel_rfl
end Go.Proofs.Ytechkfopkpkigaa
