/-
  A ring's place among the arguments.
-/
import Derived.Test.YtechkfopkpkigaaGreatFrameChain
namespace Go.Proofs.YtechkfopkpkigaaGreat
open Go.ChangeShapes Go.WideShapes Go.ChangeAt Go.RowKit
set_option linter.unusedSimpArgs false
set_option linter.unusedVariables false

variable {W : World} {v : Value}
theorem inT_ring {fuel : Nat} {l : List Value} (h : InT Tryz.prog W fuel 55 l) : ∃ r : Rg3, l = rgV r ∧ r.ok := by
  obtain ⟨hl, f', hf⟩ := inT_struct Tryz.underlying55 h
  obtain ⟨x0, x1, x2, x3, rfl⟩ := list4 (hl.trans (by kernel_rfl))
  have h0 := hf _ (List.mem_cons_self ..)
  have h1 := hf _ (List.mem_cons_of_mem _ (List.mem_cons_self ..))
  have h2 := hf _ (List.mem_cons_of_mem _ (List.mem_cons_of_mem _ (List.mem_cons_self ..)))
  have h3 := hf _ (List.mem_cons_of_mem _ (List.mem_cons_of_mem _ (List.mem_cons_of_mem _ (List.mem_cons_self ..))))
  rw [show Tryz.prog.cellsOf 53 = 1 by kernel_rfl] at h0 h1 h2
  rw [show Tryz.prog.cellsOf 3 = 1 by kernel_rfl] at h3
  obtain ⟨y0, e0, g0⟩ := inT_u32c h0
  obtain ⟨y1, e1, g1⟩ := inT_u32c h1
  obtain ⟨y2, e2, g2⟩ := inT_u32c h2
  obtain ⟨y3, e3, _⟩ := inT_int Tryz.underlying3 h3
  simp at e0 e1 e2 e3
  exact ⟨⟨y0, y1, y2, y3⟩, by rw [e0, e1, e2, e3], g0, g1, g2⟩
theorem ty_ring (h : Ty Tryz.prog W 55 v) : ∃ r : Rg3, v = .agg (rgV r).toArray ∧ r.ok := by
  obtain ⟨l, rfl, f, hl⟩ := ty_struct Tryz.underlying55 h
  obtain ⟨r, rfl, hr⟩ := inT_ring hl
  exact ⟨r, rfl, hr⟩
theorem inT_i64r {fuel : Nat} {l : List Value} (h : InT Tryz.prog W fuel 3 l) : ∃ x : Int, l = inI x ∧ True := by
  obtain ⟨x, rfl, _⟩ := inT_int Tryz.underlying3 h
  exact ⟨x, rfl, trivial⟩
theorem ty_intsr (h : Ty Tryz.prog W 38 v) : ∃ a c xs, v = .slice a (List.length (α := Int) xs) c ∧ xs.length < 9223372036854775808 ∧ SlB W a 1 inI xs := by
  obtain ⟨a, c, xs, rfl, h1, h2, h3, _⟩ := ty_sliceF (f := inI) (Q := fun _ => True) 1 Tryz.underlying38 (by kernel_rfl) (by decide) (fun fuel r h => inT_i64r h) h
  exact ⟨a, c, xs, rfl, by simp only [maxLen] at h2; omega, h3⟩
end Go.Proofs.YtechkfopkpkigaaGreat
