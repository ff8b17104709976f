/-
  What the arguments of layer 18's laws are.
-/
import Derived.Test.YtechkfopkpkigaaFramePte
import Derived.Test.YtechkfopkpkigaaStlbC
import Derived.Test.YtechkfopkpkigaaTlb
namespace Go.Proofs.Ytechkfopkpkigaa
open Go.ChangeShapes Go.WideShapes Go.ChangeAt Go.RowKit
set_option linter.unusedSimpArgs false
set_option linter.unusedVariables false

theorem list2 {l : List Value} (h : l.length = 2) : ∃ a b, l = [a, b] := by
  match l, h with
  | [a, b], _ => exact ⟨a, b, rfl⟩
variable {W : World} {v : Value}
theorem inT_key {fuel : Nat} {l : List Value} (h : InT Try.prog W fuel 73 l) : ∃ k : Key, l = keyV k ∧ True := by
  obtain ⟨hl, f', hf⟩ := inT_struct Try.underlying73 h
  obtain ⟨a, b, rfl⟩ := list2 (hl.trans (by kernel_rfl))
  have h0 := hf _ (List.mem_cons_self ..)
  have h1 := hf _ (List.mem_cons_of_mem _ (List.mem_cons_self ..))
  rw [show Try.prog.cellsOf 3 = 1 by kernel_rfl] at h0 h1
  obtain ⟨x0, e0, _⟩ := inT_int Try.underlying3 h0
  obtain ⟨x1, e1, _⟩ := inT_int Try.underlying3 h1
  simp at e0 e1
  exact ⟨(x0, x1), by rw [e0, e1], trivial⟩
theorem ty_key (h : Ty Try.prog W 73 v) : ∃ k : Key, v = .agg (keyV k).toArray := by
  obtain ⟨l, rfl, f, hl⟩ := ty_struct Try.underlying73 h
  obtain ⟨k, rfl, _⟩ := inT_key hl
  exact ⟨k, rfl⟩
theorem inT_ent {fuel : Nat} {l : List Value} (h : InT Try.prog W fuel 75 l) : ∃ k : Ent3, l = entV k ∧ True := by
  obtain ⟨hl, f', hf⟩ := inT_struct Try.underlying75 h
  obtain ⟨a, b, c, rfl⟩ := list3 (hl.trans (by kernel_rfl))
  have h0 := hf _ (List.mem_cons_self ..)
  have h1 := hf _ (List.mem_cons_of_mem _ (List.mem_cons_self ..))
  have h2 := hf _ (List.mem_cons_of_mem _ (List.mem_cons_of_mem _ (List.mem_cons_self ..)))
  rw [show Try.prog.cellsOf 3 = 1 by kernel_rfl] at h0 h1 h2
  obtain ⟨x0, e0, _⟩ := inT_int Try.underlying3 h0
  obtain ⟨x1, e1, _⟩ := inT_int Try.underlying3 h1
  obtain ⟨x2, e2, _⟩ := inT_int Try.underlying3 h2
  simp at e0 e1 e2
  exact ⟨(x0, x1, x2), by rw [e0, e1, e2], trivial⟩
theorem ty_ent (h : Ty Try.prog W 75 v) : ∃ k : Ent3, v = .agg (entV k).toArray := by
  obtain ⟨l, rfl, f, hl⟩ := ty_struct Try.underlying75 h
  obtain ⟨k, rfl, _⟩ := inT_ent hl
  exact ⟨k, rfl⟩

end Go.Proofs.Ytechkfopkpkigaa
