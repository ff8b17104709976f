/-
  What the laws' arguments are, type by type, over this seat's program.
-/
import Derived.Test.YteolepiendmhlaaGreatDoorRows
import Derived.Test.YteolepiendmhlaaGreatDoorLaw
namespace Go.Proofs.YteolepiendmhlaaGreatDoor
open Go.ChangeShapes Go.WideShapes Go.ChangeAt Go.RowKit
set_option linter.unusedSimpArgs false
set_option linter.unusedVariables false

theorem own : ownKnob Tryz.prog.godebug = none := by kernel_rfl
theorem laidOut : laidOutB Tryz.prog = true := by kernel_rfl

variable {W : World} {v : Value}
theorem wf_u32 {n : Int} (h : (Lit.int .u32 n).wf = true) : ∃ w : Nat, n = (w : Int) ∧ w < 4294967296 := by
  simp [Lit.wf, IntKind.min, IntKind.max, IntKind.signed, IntKind.bits] at h
  exact ⟨n.toNat, by omega, by omega⟩
theorem wf_u8 {n : Int} (h : (Lit.int .u8 n).wf = true) : ∃ w : Nat, n = (w : Int) ∧ w < 256 := by
  simp [Lit.wf, IntKind.min, IntKind.max, IntKind.signed, IntKind.bits] at h
  exact ⟨n.toNat, by omega, by omega⟩
theorem ty_u32 (h : Ty Tryz.prog W 22 v) : ∃ w : Nat, v = .int .u32 w ∧ w < 4294967296 := by
  obtain ⟨n, rfl, hw⟩ := ty_int Tryz.underlying22 h
  obtain ⟨w, rfl, h'⟩ := wf_u32 hw
  exact ⟨w, rfl, h'⟩
theorem ty_u8 (h : Ty Tryz.prog W 5 v) : ∃ w : Nat, v = .int .u8 w ∧ w < 256 := by
  obtain ⟨n, rfl, hw⟩ := ty_int Tryz.underlying5 h
  obtain ⟨w, rfl, h'⟩ := wf_u8 hw
  exact ⟨w, rfl, h'⟩

end Go.Proofs.YteolepiendmhlaaGreatDoor
