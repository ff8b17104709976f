/-
  What the arguments of layer 17's laws are.
-/
import Derived.Test.YtalpgipkkdlpgaaFrame
import Derived.Test.YtalpgipkkdlpgaaFrameBytes
import Derived.Test.YtalpgipkkdlpgaaWalkLawB
namespace Go.Proofs.Ytalpgipkkdlpgaa
open Go.ChangeShapes Go.WideShapes Go.ChangeAt Go.RowKit
set_option linter.unusedSimpArgs false
set_option linter.unusedVariables false

variable {W : World} {v : Value}
theorem list2w {l : List Value} (h : l.length = 2) : ∃ a b, l = [a, b] := by
  match l, h with
  | [a, b], _ => exact ⟨a, b, rfl⟩
theorem list3w {l : List Value} (h : l.length = 3) : ∃ a b c, l = [a, b, c] := by
  match l, h with
  | [a, b, c], _ => exact ⟨a, b, c, rfl⟩
theorem wf_u16 {n : Int} (h : (Lit.int .u16 n).wf = true) : ∃ w : Nat, n = (w : Int) ∧ w < 65536 := by
  simp [Lit.wf, IntKind.min, IntKind.max, IntKind.signed, IntKind.bits] at h
  exact ⟨n.toNat, by omega, by omega⟩
theorem ty_u16 (h : Ty Try.prog W 22 v) : ∃ w : Nat, v = .int .u16 w ∧ w < 65536 := by
  obtain ⟨n, rfl, hw⟩ := ty_int Try.underlying22 h
  obtain ⟨w, rfl, h'⟩ := wf_u16 hw
  exact ⟨w, rfl, h'⟩
theorem inT_u32w {fuel : Nat} {l : List Value} (h : InT Try.prog W fuel 24 l) : ∃ x : Nat, l = u4V x ∧ x < 4294967296 := by
  obtain ⟨n, rfl, hw⟩ := inT_int Try.underlying24 h
  obtain ⟨w, rfl, h'⟩ := wf_u32 hw
  exact ⟨w, rfl, h'⟩
theorem ty_u32s (h : Ty Try.prog W 151 v) : ∃ a c xs, v = .slice a (List.length (α := Nat) xs) c ∧ xs.length < 9223372036854775808 ∧ SlB W a 1 u4V xs ∧ ∀ x ∈ xs, x < 4294967296 := by
  obtain ⟨a, c, xs, rfl, h1, h2, h3, h4⟩ := ty_sliceF (f := u4V) (Q := fun x => x < 4294967296) 1 Try.underlying151 (by kernel_rfl) (by decide) (fun fuel r h => inT_u32w h) h
  exact ⟨a, c, xs, rfl, by simp only [maxLen] at h2; omega, h3, h4⟩
theorem inT_put17 {fuel : Nat} {l : List Value} (h : InT Try.prog W fuel 102 l) : ∃ t : Pt17, l = pt17V t ∧ Pt17Ok t := by
  obtain ⟨hl, f', hf⟩ := inT_struct Try.underlying102 h
  obtain ⟨x0, x1, rfl⟩ := list2w (hl.trans (by kernel_rfl))
  have h0 := hf _ (List.mem_cons_self ..)
  have h1 := hf _ (List.mem_cons_of_mem _ (List.mem_cons_self ..))
  rw [show Try.prog.cellsOf 24 = 1 by kernel_rfl] at h0 h1
  obtain ⟨y0, e0, g0⟩ := inT_u32w h0
  obtain ⟨y1, e1, g1⟩ := inT_u32w h1
  simp at e0 e1
  exact ⟨(y0, y1), by rw [e0, e1], g0, g1⟩
theorem ty_puts17 (h : Ty Try.prog W 23 v) : ∃ a c xs, v = .slice a (List.length (α := Pt17) xs) c ∧ xs.length < 9223372036854775808 ∧ SlB W a 2 pt17V xs ∧ ∀ t ∈ xs, Pt17Ok t := by
  obtain ⟨a, c, xs, rfl, h1, h2, h3, h4⟩ := ty_sliceF (f := pt17V) (Q := Pt17Ok) 2 Try.underlying23 (by kernel_rfl) (by decide) (fun fuel r h => inT_put17 h) h
  exact ⟨a, c, xs, rfl, by simp only [maxLen] at h2; omega, h3, h4⟩
theorem inT_mode {fuel : Nat} {l : List Value} (h : InT Try.prog W fuel 34 l) : ∃ on r u, l = moV on r u := by
  obtain ⟨hl, f', hf⟩ := inT_struct Try.underlying34 h
  obtain ⟨a, b, c, rfl⟩ := list3w (hl.trans (by kernel_rfl))
  have h0 := hf _ (List.mem_cons_self ..)
  have h1 := hf _ (List.mem_cons_of_mem _ (List.mem_cons_self ..))
  have h2 := hf _ (List.mem_cons_of_mem _ (List.mem_cons_of_mem _ (List.mem_cons_self ..)))
  rw [show Try.prog.cellsOf 4 = 1 by kernel_rfl] at h0 h2
  rw [show Try.prog.cellsOf 3 = 1 by kernel_rfl] at h1
  obtain ⟨x0, e0⟩ := inT_bool Try.underlying4 h0
  obtain ⟨x1, e1, _⟩ := inT_int Try.underlying3 h1
  obtain ⟨x2, e2⟩ := inT_bool Try.underlying4 h2
  simp at e0 e1 e2
  exact ⟨x0, x1, x2, by rw [e0, e1, e2]⟩
theorem ty_mode (h : Ty Try.prog W 34 v) : ∃ on r u, v = .agg (moV on r u).toArray := by
  obtain ⟨l, rfl, f, hl⟩ := ty_struct Try.underlying34 h
  obtain ⟨a, b, c, rfl⟩ := inT_mode hl
  exact ⟨a, b, c, rfl⟩
end Go.Proofs.Ytalpgipkkdlpgaa
