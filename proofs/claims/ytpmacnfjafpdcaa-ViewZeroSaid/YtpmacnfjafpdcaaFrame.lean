/-
  What the laws' arguments are, type by type, over this seat's program.
-/
import Derived.Test.YtpmacnfjafpdcaaRows
import Derived.Test.YtpmacnfjafpdcaaLaw
namespace Go.Proofs.Ytpmacnfjafpdcaa
open Go.ChangeShapes Go.WideShapes Go.ChangeAt Go.RowKit
set_option linter.unusedSimpArgs false
set_option linter.unusedVariables false

theorem own : ownKnob Try.prog.godebug = none := by kernel_rfl
theorem laidOut : laidOutB Try.prog = true := by kernel_rfl

variable {W : World} {v : Value}
theorem wf_u32 {n : Int} (h : (Lit.int .u32 n).wf = true) : ∃ w : Nat, n = (w : Int) ∧ w < 4294967296 := by
  simp [Lit.wf, IntKind.min, IntKind.max, IntKind.signed, IntKind.bits] at h
  exact ⟨n.toNat, by omega, by omega⟩
theorem wf_u8 {n : Int} (h : (Lit.int .u8 n).wf = true) : ∃ w : Nat, n = (w : Int) ∧ w < 256 := by
  simp [Lit.wf, IntKind.min, IntKind.max, IntKind.signed, IntKind.bits] at h
  exact ⟨n.toNat, by omega, by omega⟩
theorem ty_u32 (h : Ty Try.prog W 24 v) : ∃ w : Nat, v = .int .u32 w ∧ w < 4294967296 := by
  obtain ⟨n, rfl, hw⟩ := ty_int Try.underlying24 h
  obtain ⟨w, rfl, h'⟩ := wf_u32 hw
  exact ⟨w, rfl, h'⟩
theorem ty_u8 (h : Ty Try.prog W 5 v) : ∃ w : Nat, v = .int .u8 w ∧ w < 256 := by
  obtain ⟨n, rfl, hw⟩ := ty_int Try.underlying5 h
  obtain ⟨w, rfl, h'⟩ := wf_u8 hw
  exact ⟨w, rfl, h'⟩

theorem list3 {l : List Value} (h : l.length = 3) : ∃ a b c, l = [a, b, c] := by
  match l, h with
  | [a, b, c], _ => exact ⟨a, b, c, rfl⟩
theorem inT_pte {fuel : Nat} {l : List Value} (h : InT Try.prog W fuel 23 l) : ∃ on r p, l = [.bool on, .int .i64 r, .int .i64 p] := by
  obtain ⟨hl, f', hf⟩ := inT_struct Try.underlying23 h
  obtain ⟨a, b, c, rfl⟩ := list3 (hl.trans (by kernel_rfl))
  have h0 := hf _ (List.mem_cons_self ..)
  have h1 := hf _ (List.mem_cons_of_mem _ (List.mem_cons_self ..))
  have h2 := hf _ (List.mem_cons_of_mem _ (List.mem_cons_of_mem _ (List.mem_cons_self ..)))
  rw [show Try.prog.cellsOf 4 = 1 by kernel_rfl] at h0
  rw [show Try.prog.cellsOf 3 = 1 by kernel_rfl] at h1 h2
  obtain ⟨x0, e0⟩ := inT_bool Try.underlying4 h0
  obtain ⟨x1, e1, _⟩ := inT_int Try.underlying3 h1
  obtain ⟨x2, e2, _⟩ := inT_int Try.underlying3 h2
  simp at e0 e1 e2
  exact ⟨x0, x1, x2, by rw [e0, e1, e2]⟩
theorem ty_pte (h : Ty Try.prog W 23 v) : ∃ on r p, v = .agg #[.bool on, .int .i64 r, .int .i64 p] := by
  obtain ⟨l, rfl, f, hl⟩ := ty_struct Try.underlying23 h
  obtain ⟨a, b, c, rfl⟩ := inT_pte hl
  exact ⟨a, b, c, rfl⟩
end Go.Proofs.Ytpmacnfjafpdcaa
