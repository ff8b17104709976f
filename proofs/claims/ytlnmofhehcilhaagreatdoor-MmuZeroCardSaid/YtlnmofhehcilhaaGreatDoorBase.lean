/-
  What is said of the program at large.
-/
import Derived.Test.YtlnmofhehcilhaaGreatDoorProg
import Derived.Test.YtlnmofhehcilhaaGreatDoorBits
import Derived.Test.YtlnmofhehcilhaaGreatDoorMore
namespace Go.Proofs.YtlnmofhehcilhaaGreatDoor
open Go.RowKit
theorem mixed : Tryz.prog.follows .mixedOrders = true := by kernel_rfl
end Go.Proofs.YtlnmofhehcilhaaGreatDoor
