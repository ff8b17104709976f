/-
  What is said of the program at large.
-/
import Derived.Test.YteolepiendmhlaaGreatDoorProg
import Derived.Test.YteolepiendmhlaaGreatDoorBits
import Derived.Test.YteolepiendmhlaaGreatDoorMore
namespace Go.Proofs.YteolepiendmhlaaGreatDoor
open Go.RowKit
theorem mixed : Tryz.prog.follows .mixedOrders = true := by kernel_rfl
end Go.Proofs.YteolepiendmhlaaGreatDoor
