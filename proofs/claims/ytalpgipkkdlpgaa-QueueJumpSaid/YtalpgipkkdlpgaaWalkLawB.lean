/-
  Layer 17 (walk): the walks of WalkPlays and WalkFlat.
-/
import Derived.Test.YtalpgipkkdlpgaaWalkLaw
namespace Go.Proofs.Ytalpgipkkdlpgaa
open Go.RowKit
set_option linter.unusedSimpArgs false
set_option linter.unusedVariables false
set_option maxRecDepth 20000

@[reducible] def u4V (x : Nat) : List Value := [.int .u32 x]
theorem fnw_off {fr : List Frm} {pg : List Pl} {root : Int} {user : Bool} {va : Nat} {kind : Int} : fnwV fr pg false root user va kind = [.int .i64 (fndP fr.length pg va 1 kind), .int .i64 (fndF fr.length pg va 1 kind), .int .i64 (fndO fr.length pg va 1 kind), .bool false] ∧ fnwE fr pg false root user va kind = fndE fr.length pg va 1 kind := ⟨rfl, rfl⟩
end Go.Proofs.Ytalpgipkkdlpgaa
