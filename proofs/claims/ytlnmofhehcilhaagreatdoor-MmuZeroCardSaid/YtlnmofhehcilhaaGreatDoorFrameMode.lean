/-
  What an argument of the type api.Mode is.
-/
import Derived.Test.YtlnmofhehcilhaaGreatDoorFrame
namespace Go.Proofs.YtlnmofhehcilhaaGreatDoor
open Go.ChangeShapes Go.WideShapes Go.ChangeAt Go.RowKit
set_option linter.unusedSimpArgs false
set_option linter.unusedVariables false

variable {W : World} {v : Value}
theorem list3m {l : List Value} (h : l.length = 3) : ∃ a b c, l = [a, b, c] := by
  match l, h with
  | [a, b, c], _ => exact ⟨a, b, c, rfl⟩
theorem ty_moded (h : Ty Tryz.prog W 30 v) : ∃ on r u, v = .agg #[.bool on, .int .i64 r, .bool u] := by
  obtain ⟨l, rfl, f, h⟩ := ty_struct Tryz.underlying30 h
  obtain ⟨hl, f', hf⟩ := inT_struct Tryz.underlying30 h
  obtain ⟨a, b, c, rfl⟩ := list3m (hl.trans (by kernel_rfl))
  have h0 := hf _ (List.mem_cons_self ..)
  have h1 := hf _ (List.mem_cons_of_mem _ (List.mem_cons_self ..))
  have h2 := hf _ (List.mem_cons_of_mem _ (List.mem_cons_of_mem _ (List.mem_cons_self ..)))
  rw [show Tryz.prog.cellsOf 4 = 1 by kernel_rfl] at h0 h2
  rw [show Tryz.prog.cellsOf 3 = 1 by kernel_rfl] at h1
  obtain ⟨x0, e0⟩ := inT_bool Tryz.underlying4 h0
  obtain ⟨x1, e1, _⟩ := inT_int Tryz.underlying3 h1
  obtain ⟨x2, e2⟩ := inT_bool Tryz.underlying4 h2
  simp at e0 e1 e2
  exact ⟨x0, x1, x2, by rw [e0, e1, e2]⟩
end Go.Proofs.YtlnmofhehcilhaaGreatDoor
