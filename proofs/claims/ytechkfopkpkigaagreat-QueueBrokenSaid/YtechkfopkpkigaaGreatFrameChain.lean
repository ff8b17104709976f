/-
  What the arguments of layer 22's laws are.
-/
import Derived.Test.YtechkfopkpkigaaGreatFrame
import Derived.Test.YtechkfopkpkigaaGreatChainLaw
namespace Go.Proofs.YtechkfopkpkigaaGreat
open Go.ChangeShapes Go.WideShapes Go.ChangeAt Go.RowKit
set_option linter.unusedSimpArgs false
set_option linter.unusedVariables false

variable {W : World} {v : Value}
theorem list4 {l : List Value} (h : l.length = 4) : ∃ a b c d, l = [a, b, c, d] := by
  match l, h with
  | [a, b, c, d], _ => exact ⟨a, b, c, d, rfl⟩
theorem inT_u32c {fuel : Nat} {l : List Value} (h : InT Tryz.prog W fuel 53 l) : ∃ x : Nat, l = [.int .u32 x] ∧ x < 4294967296 := by
  obtain ⟨n, rfl, hw⟩ := inT_int Tryz.underlying53 h
  obtain ⟨w, rfl, h'⟩ := wf_u32 hw
  exact ⟨w, rfl, h'⟩
theorem inT_desc {fuel : Nat} {l : List Value} (h : InT Tryz.prog W fuel 99 l) : ∃ d : Dsc, l = dsV d ∧ d.ok := by
  obtain ⟨hl, f', hf⟩ := inT_struct Tryz.underlying99 h
  obtain ⟨x0, x1, x2, x3, rfl⟩ := list4 (hl.trans (by kernel_rfl))
  have h0 := hf _ (List.mem_cons_self ..)
  have h1 := hf _ (List.mem_cons_of_mem _ (List.mem_cons_self ..))
  have h2 := hf _ (List.mem_cons_of_mem _ (List.mem_cons_of_mem _ (List.mem_cons_self ..)))
  have h3 := hf _ (List.mem_cons_of_mem _ (List.mem_cons_of_mem _ (List.mem_cons_of_mem _ (List.mem_cons_self ..))))
  rw [show Tryz.prog.cellsOf 53 = 1 by kernel_rfl] at h0 h1 h2 h3
  obtain ⟨y0, e0, g0⟩ := inT_u32c h0
  obtain ⟨y1, e1, g1⟩ := inT_u32c h1
  obtain ⟨y2, e2, g2⟩ := inT_u32c h2
  obtain ⟨y3, e3, g3⟩ := inT_u32c h3
  simp at e0 e1 e2 e3
  exact ⟨⟨y0, y1, y2, y3⟩, by rw [e0, e1, e2, e3], g0, g1, g2, g3⟩
theorem ty_descs (h : Ty Tryz.prog W 43 v) : ∃ a c xs, v = .slice a (List.length (α := Dsc) xs) c ∧ xs.length < 9223372036854775808 ∧ SlB W a 4 dsV xs ∧ ∀ d ∈ xs, d.ok := by
  obtain ⟨a, c, xs, rfl, h1, h2, h3, h4⟩ := ty_sliceF (f := dsV) (Q := Dsc.ok) 4 Tryz.underlying43 (by kernel_rfl) (by decide) (fun fuel r h => inT_desc h) h
  exact ⟨a, c, xs, rfl, by simp only [maxLen] at h2; omega, h3, h4⟩
end Go.Proofs.YtechkfopkpkigaaGreat
