/-
  What is said of the program at large.
-/
import Derived.Test.YtalpgipkkdlpgaaProg
import Derived.Test.YtalpgipkkdlpgaaBits
import Derived.Test.YtalpgipkkdlpgaaMore
namespace Go.Proofs.Ytalpgipkkdlpgaa
open Go.RowKit
theorem mixed : Try.prog.follows .mixedOrders = true := by kernel_rfl
end Go.Proofs.Ytalpgipkkdlpgaa
