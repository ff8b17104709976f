/-
  Bytes among the arguments.
-/
import Derived.Test.YteolepiendmhlaaGreatDoorFrame
import Derived.Test.YteolepiendmhlaaGreatDoorLawB
import Derived.Test.YteolepiendmhlaaGreatDoorBytes
namespace Go.Proofs.YteolepiendmhlaaGreatDoor
open Go.ChangeShapes Go.WideShapes Go.ChangeAt Go.RowKit
set_option linter.unusedSimpArgs false
set_option linter.unusedVariables false

variable {W : World} {v : Value}
theorem inT_byteB {fuel : Nat} {l : List Value} (h : InT Tryz.prog W fuel 5 l) : ∃ x : Nat, l = [bV x] ∧ x < 256 := by
  obtain ⟨n, rfl, hw⟩ := inT_int Tryz.underlying5 h
  obtain ⟨w, rfl, h'⟩ := wf_u8 hw
  exact ⟨w, rfl, h'⟩
theorem inT_bytesB {fuel : Nat} {l : List Value} (h : InT Tryz.prog W fuel 279 l) : ∃ a c xs, l = [.slice a (List.length (α := Nat) xs) c] ∧ xs.length < 9223372036854775808 ∧ SlB W a 1 (fun x => [bV x]) xs ∧ By xs := by
  obtain ⟨a, c, xs, rfl, h1, h2, h3, h4⟩ := inT_sliceF (f := fun x => [bV x]) (Q := fun x => x < 256) 1 Tryz.underlying279 (by kernel_rfl) (by decide) (fun fuel r h => inT_byteB h) h
  exact ⟨a, c, xs, rfl, by simp only [maxLen] at h2; omega, h3, h4⟩
theorem ty_bytesB (h : Ty Tryz.prog W 279 v) : ∃ a c xs, v = .slice a (List.length (α := Nat) xs) c ∧ xs.length < 9223372036854775808 ∧ xs.length ≤ c ∧ SlB W a 1 (fun x => [bV x]) xs ∧ By xs := by
  obtain ⟨a, c, xs, rfl, h1, h2, h3, h4⟩ := ty_sliceF (f := fun x => [bV x]) (Q := fun x => x < 256) 1 Tryz.underlying279 (by kernel_rfl) (by decide) (fun fuel r h => inT_byteB h) h
  exact ⟨a, c, xs, rfl, by simp only [maxLen] at h2; omega, h1, h3, h4⟩
theorem wf_i64 {n : Int} (h : (Lit.int .i64 n).wf = true) : -9223372036854775808 ≤ n ∧ n < 9223372036854775808 := by
  simp [Lit.wf, IntKind.min, IntKind.max, IntKind.signed, IntKind.bits] at h
  omega
theorem ty_i64 (h : Ty Tryz.prog W 3 v) : ∃ n : Int, v = .int .i64 n ∧ -9223372036854775808 ≤ n ∧ n < 9223372036854775808 := by
  obtain ⟨n, rfl, hw⟩ := ty_int Tryz.underlying3 h
  exact ⟨n, rfl, wf_i64 hw⟩
end Go.Proofs.YteolepiendmhlaaGreatDoor
