/-
  What the arguments of layer 16's laws are.
-/
import Derived.Test.YtpmacnfjafpdcaaFrame
import Derived.Test.YtpmacnfjafpdcaaViewLaw
import Derived.Test.YtpmacnfjafpdcaaLawB
namespace Go.Proofs.Ytpmacnfjafpdcaa
open Go.ChangeShapes Go.WideShapes Go.ChangeAt Go.RowKit
set_option linter.unusedSimpArgs false
set_option linter.unusedVariables false

variable {W : World} {v : Value}
theorem inT_i64 {fuel : Nat} {l : List Value} (h : InT Try.prog W fuel 3 l) : ∃ x : Int, l = inI x ∧ True := by
  obtain ⟨x, rfl, _⟩ := inT_int Try.underlying3 h
  exact ⟨x, rfl, trivial⟩
theorem list2' {l : List Value} (h : l.length = 2) : ∃ a b, l = [a, b] := by
  match l, h with
  | [a, b], _ => exact ⟨a, b, rfl⟩
theorem inT_place {fuel : Nat} {l : List Value} (h : InT Try.prog W fuel 82 l) : ∃ k : Pl, l = plV k ∧ True := by
  obtain ⟨hl, f', hf⟩ := inT_struct Try.underlying82 h
  obtain ⟨a, b, rfl⟩ := list2' (hl.trans (by kernel_rfl))
  have h0 := hf _ (List.mem_cons_self ..)
  have h1 := hf _ (List.mem_cons_of_mem _ (List.mem_cons_self ..))
  rw [show Try.prog.cellsOf 3 = 1 by kernel_rfl] at h0 h1
  obtain ⟨x0, e0, _⟩ := inT_int Try.underlying3 h0
  obtain ⟨x1, e1, _⟩ := inT_int Try.underlying3 h1
  simp at e0 e1
  exact ⟨(x0, x1), by rw [e0, e1], trivial⟩
theorem ty_ints (h : Ty Try.prog W 56 v) : ∃ a c xs, v = .slice a (List.length (α := Int) xs) c ∧ xs.length < 9223372036854775808 ∧ SlB W a 1 inI xs := by
  obtain ⟨a, c, xs, rfl, h1, h2, h3, _⟩ := ty_sliceF (f := inI) (Q := fun _ => True) 1 Try.underlying56 (by kernel_rfl) (by decide) (fun fuel r h => inT_i64 h) h
  exact ⟨a, c, xs, rfl, by simp only [maxLen] at h2; omega, h3⟩
theorem ty_places (h : Ty Try.prog W 57 v) : ∃ a c xs, v = .slice a (List.length (α := Pl) xs) c ∧ xs.length < 9223372036854775808 ∧ SlB W a 2 plV xs := by
  obtain ⟨a, c, xs, rfl, h1, h2, h3, _⟩ := ty_sliceF (f := plV) (Q := fun _ => True) 2 Try.underlying57 (by kernel_rfl) (by decide) (fun fuel r h => inT_place h) h
  exact ⟨a, c, xs, rfl, by simp only [maxLen] at h2; omega, h3⟩

theorem inT_byte {fuel : Nat} {l : List Value} (h : InT Try.prog W fuel 5 l) : ∃ x : Nat, l = [bV x] ∧ x < 256 := by
  obtain ⟨n, rfl, hw⟩ := inT_int Try.underlying5 h
  obtain ⟨w, rfl, h'⟩ := wf_u8 hw
  exact ⟨w, rfl, h'⟩
theorem inT_u32 {fuel : Nat} {l : List Value} (h : InT Try.prog W fuel 24 l) : ∃ x : Nat, l = [.int .u32 x] ∧ x < 4294967296 := by
  obtain ⟨n, rfl, hw⟩ := inT_int Try.underlying24 h
  obtain ⟨w, rfl, h'⟩ := wf_u32 hw
  exact ⟨w, rfl, h'⟩
theorem inT_bytes {fuel : Nat} {l : List Value} (h : InT Try.prog W fuel 64 l) : ∃ a c xs, l = [.slice a (List.length (α := Nat) xs) c] ∧ xs.length < 9223372036854775808 ∧ SlB W a 1 (fun x => [bV x]) xs ∧ By xs := by
  obtain ⟨a, c, xs, rfl, h1, h2, h3, h4⟩ := inT_sliceF (f := fun x => [bV x]) (Q := fun x => x < 256) 1 Try.underlying64 (by kernel_rfl) (by decide) (fun fuel r h => inT_byte h) h
  exact ⟨a, c, xs, rfl, by simp only [maxLen] at h2; omega, h3, h4⟩
theorem ty_bytes (h : Ty Try.prog W 64 v) : ∃ a c xs, v = .slice a (List.length (α := Nat) xs) c ∧ xs.length < 9223372036854775808 ∧ SlB W a 1 (fun x => [bV x]) xs ∧ By xs := by
  obtain ⟨a, c, xs, rfl, h1, h2, h3, h4⟩ := ty_sliceF (f := fun x => [bV x]) (Q := fun x => x < 256) 1 Try.underlying64 (by kernel_rfl) (by decide) (fun fuel r h => inT_byte h) h
  exact ⟨a, c, xs, rfl, by simp only [maxLen] at h2; omega, h3, h4⟩
end Go.Proofs.Ytpmacnfjafpdcaa
