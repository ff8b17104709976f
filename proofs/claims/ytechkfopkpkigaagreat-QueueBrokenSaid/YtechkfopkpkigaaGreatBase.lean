/-
  What is said of the program at large.
-/
import Derived.Test.YtechkfopkpkigaaGreatProg
import Derived.Test.YtechkfopkpkigaaGreatBits
import Derived.Test.YtechkfopkpkigaaGreatMore
namespace Go.Proofs.YtechkfopkpkigaaGreat
open Go.RowKit
theorem mixed : Tryz.prog.follows .mixedOrders = true := by kernel_rfl
end Go.Proofs.YtechkfopkpkigaaGreat
