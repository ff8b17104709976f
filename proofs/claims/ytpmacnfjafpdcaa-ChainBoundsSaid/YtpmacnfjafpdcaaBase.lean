/-
  What is said of the program at large.
-/
import Derived.Test.YtpmacnfjafpdcaaProg
import Derived.Test.YtpmacnfjafpdcaaBits
import Derived.Test.YtpmacnfjafpdcaaMore
namespace Go.Proofs.Ytpmacnfjafpdcaa
open Go.RowKit
theorem mixed : Try.prog.follows .mixedOrders = true := by kernel_rfl
end Go.Proofs.Ytpmacnfjafpdcaa
