/-
  Entries among the arguments, with their numbers' bounds.
-/
import Derived.Test.YtechkfopkpkigaaFrameTlb
import Derived.Test.YtechkfopkpkigaaFrameBytes
import Derived.Test.YtechkfopkpkigaaStlbF
namespace Go.Proofs.Ytechkfopkpkigaa
open Go.ChangeShapes Go.WideShapes Go.ChangeAt Go.RowKit
set_option linter.unusedSimpArgs false
set_option linter.unusedVariables false

variable {W : World} {v : Value}
theorem inT_entR {fuel : Nat} {l : List Value} (h : InT Try.prog W fuel 75 l) : ∃ k : Ent3, l = entV k ∧ i64 k.2.2 := by
  obtain ⟨hl, f', hf⟩ := inT_struct Try.underlying75 h
  obtain ⟨a, b, c, rfl⟩ := list3 (hl.trans (by kernel_rfl))
  have h0 := hf _ (List.mem_cons_self ..)
  have h1 := hf _ (List.mem_cons_of_mem _ (List.mem_cons_self ..))
  have h2 := hf _ (List.mem_cons_of_mem _ (List.mem_cons_of_mem _ (List.mem_cons_self ..)))
  rw [show Try.prog.cellsOf 3 = 1 by kernel_rfl] at h0 h1 h2
  obtain ⟨x0, e0, _⟩ := inT_int Try.underlying3 h0
  obtain ⟨x1, e1, _⟩ := inT_int Try.underlying3 h1
  obtain ⟨x2, e2, q2⟩ := inT_int Try.underlying3 h2
  simp at e0 e1 e2
  exact ⟨(x0, x1, x2), by rw [e0, e1, e2], wf_i64 q2⟩
theorem ty_entsR (h : Ty Try.prog W 67 v) : ∃ a c xs, v = .slice a (List.length (α := Ent3) xs) c ∧ xs.length < 9223372036854775808 ∧ SlB W a 3 entV xs ∧ ∀ e ∈ xs, i64 e.2.2 := by
  obtain ⟨a, c, xs, rfl, h1, h2, h3, h4⟩ := ty_sliceF (f := entV) (Q := fun e => i64 e.2.2) 3 Try.underlying67 (by kernel_rfl) (by decide) (fun fuel r h => inT_entR h) h
  exact ⟨a, c, xs, rfl, by simp only [maxLen] at h2; omega, h3, h4⟩
end Go.Proofs.Ytechkfopkpkigaa
