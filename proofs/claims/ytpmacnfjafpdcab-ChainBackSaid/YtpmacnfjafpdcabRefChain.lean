/-
  The references of layers 21 and 22: descriptors, walking; lengths.
-/
import Derived.Test.YtpmacnfjafpdcabChainB
import Derived.Test.YtpmacnfjafpdcabRefViewC
namespace Go.Proofs.Ytpmacnfjafpdcab
open Go.RowKit
set_option linter.unusedSimpArgs false
set_option linter.unusedVariables false
set_option maxRecDepth 20000

theorem getN_wd {l : List Nat} {k : Nat} (h : 4 * k + 4 ≤ l.length) : getN l ((4 * k : Nat) : Int) 4 = wdAt l k := by
  rw [getN, if_pos (inB_iff.2 (by omega)), Int.toNat_natCast]; rfl
theorem rgtB_iff {r : Rg3} : rgtB r = true ↔ (r.desc % 4 = 0 ∧ r.avail % 4 = 0 ∧ r.used % 4 = 0) ∧ szd r.n = true := by
  rw [rgtB, Bool.and_eq_true]; exact ⟨fun h => ⟨of_decide_eq_true h.1, h.2⟩, fun h => ⟨decide_eq_true h.1, h.2⟩⟩
theorem lk_flags {fr : List Frm} {pg : List Pl} {r : Rg3} {at_ : Int} {n : Nat} {wr : Bool} (h : (lk fr pg r at_ n wr).2 = 0) : (lk fr pg r at_ n wr).1.flags < 4 := by
  unfold lk at h ⊢
  by_cases q1 : at_ < 0 ∨ r.n ≤ at_
  · rw [if_pos q1] at h; exact absurd h (by decide)
  rw [if_neg q1] at h ⊢
  by_cases q2 : r.n ≤ (n : Int)
  · rw [if_pos q2] at h; exact absurd h (by decide)
  rw [if_neg q2] at h ⊢
  by_cases q3 : ownB fr.length pg (dsPa r at_.toNat) 16 = false
  · rw [if_pos q3] at h; exact absurd h (by decide)
  rw [if_neg q3] at h ⊢
  by_cases q4 : chkC (dsAt fr pg r at_.toNat) r.n.toNat ≠ 0
  · rw [if_pos q4] at h; exact absurd h q4
  rw [if_neg q4] at h ⊢
  by_cases q5 : ownB fr.length pg (dsAt fr pg r at_.toNat).addr (dsAt fr pg r at_.toNat).len = false
  · rw [if_pos q5] at h; exact absurd h (by decide)
  rw [if_neg q5] at h ⊢
  by_cases q6 : wr = true ∧ wrB (dsAt fr pg r at_.toNat) = false
  · rw [if_pos q6] at h; exact absurd h (by decide)
  rw [if_neg q6]
  simp only
  rcases Nat.lt_or_ge (dsAt fr pg r at_.toNat).flags 4 with q | q
  · exact q
  · exact absurd (by rw [chkC, if_pos q]; decide) q4
abbrev rvw (qv qs qm d : Nat) (fr : List Frm) (pg : List Pl) (R : List HP) : List HP := pt qv (rvO qs qm d) :: rstoH qs fr :: pt qm (rgO pg) :: R
end Go.Proofs.Ytpmacnfjafpdcab
