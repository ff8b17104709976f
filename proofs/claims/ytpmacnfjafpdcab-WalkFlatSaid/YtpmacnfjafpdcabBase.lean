/-
  What is said of the program at large.
-/
import Derived.Test.YtpmacnfjafpdcabProg
import Derived.Test.YtpmacnfjafpdcabBits
import Derived.Test.YtpmacnfjafpdcabMore
namespace Go.Proofs.Ytpmacnfjafpdcab
open Go.RowKit
theorem mixed : Try.prog.follows .mixedOrders = true := by kernel_rfl
end Go.Proofs.Ytpmacnfjafpdcab
