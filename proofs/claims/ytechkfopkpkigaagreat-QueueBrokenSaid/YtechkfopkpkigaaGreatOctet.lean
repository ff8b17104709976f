/-
  Layer 2 (octet) and its reference: numbers in bytes.
-/
import Derived.Test.YtechkfopkpkigaaGreatBase
import Derived.Test.YtechkfopkpkigaaGreatBytes
namespace Go.Proofs.YtechkfopkpkigaaGreat
open Go.RowKit
set_option linter.unusedSimpArgs false
set_option linter.unusedVariables false
set_option maxRecDepth 20000

def winV (g off n : Nat) (at_ w : Int) : Value := if inB n at_ w then .tuple #[.slice (some ⟨g, off + at_.toNat, none⟩) w.toNat w.toNat, .bool true] else .tuple #[.slice none 0 0, .bool false]
theorem window_spec (W0 : World) (R : List HP) (g off n c : Nat) (at_ w : Int) (hn : n ≤ c) (h63 : c < 9223372036854775808) :
    Spec Tryz.prog W0 232 [.slice (some ⟨g, off, none⟩) n c, .int .i64 at_, .int .i64 w] R (fun v B => v = winV g off n at_ w ∧ B = R) := by
  refine spec_body Tryz.func232 Tryz.ntmps232 rfl rfl ?_
  refine x_seq ?_
  refine x_region ?_
  refine s_val rfl (v_assign rfl) ?_
  refine s_val rfl (v_assign rfl) ?_
  refine x_nil ?_
  refine n_then ?_
  refine x_seq ?_
  refine x_block ?_
  refine x_seq ?_
  refine x_region ?_
  refine s_val rfl (v_move rfl) ?_
  refine s_val rfl (v_neq rfl rfl) ?_
  refine s_val rfl (v_move rfl) ?_
  refine s_and rfl rfl rfl ?_ ?_
  · intro g1_3
    refine s_val rfl (v_move rfl) ?_
    refine s_yes rfl rfl ?_
    refine s_val rfl (v_neq rfl rfl) ?_
    refine s_val rfl (v_pick_t rfl rfl) ?_
    refine s_val rfl (v_move rfl) ?_
    refine s_and rfl rfl rfl ?_ ?_
    · intro g1_7
      refine s_val rfl (v_move rfl) ?_
      refine s_yes rfl rfl ?_
      refine s_val rfl (v_neq rfl rfl) ?_
      refine s_val rfl (v_pick_t rfl rfl) ?_
      refine s_val rfl (v_assign rfl) ?_
      refine x_nil ?_
      refine n_then ?_
      refine x_if rfl ?_ ?_
      · intro c1
        refine x_seq ?_
        refine x_region ?_
        refine s_val rfl (v_assign rfl) ?_
        refine s_val rfl (v_assign rfl) ?_
        refine x_nil ?_
        refine n_then ?_
        refine x_ret ?_
        refine r_block ?_
        refine r_then ?_
        refine x_done (.inl rfl) (.cons (r_tmp rfl) (.cons (r_tmp rfl) .nil)) ?_
        refine ⟨_, ⟨?_, rfl⟩, inferInstance⟩
        have hi : inB n at_ w = false := by
          rw [← Bool.not_eq_true, inB_iff]; omega
        simp [pack, winV, hi]
      · intro c1
        refine x_seq ?_
        refine x_seq ?_
        refine x_region ?_
        refine s_val rfl (v_move rfl) ?_
        refine s_val rfl (v_lss rfl rfl) ?_
        refine s_val rfl (v_assign rfl) ?_
        refine x_nil ?_
        refine n_then ?_
        refine x_if rfl ?_ ?_
        · intro c3
          refine x_skip ?_
          refine n_then ?_
          refine x_ift rfl ?_
          refine x_seq ?_
          refine x_region ?_
          refine s_val rfl (v_assign rfl) ?_
          refine s_val rfl (v_assign rfl) ?_
          refine x_nil ?_
          refine n_then ?_
          refine x_ret ?_
          refine r_block ?_
          refine r_then ?_
          refine x_done (.inl rfl) (.cons (r_tmp rfl) (.cons (r_tmp rfl) .nil)) ?_
          refine ⟨_, ⟨?_, rfl⟩, inferInstance⟩
          have hi : inB n at_ w = false := by
            rw [← Bool.not_eq_true, inB_iff]; omega
          simp [pack, winV, hi]
        · intro c3
          refine x_seq ?_
          refine x_region ?_
          refine s_val rfl (v_move rfl) ?_
          refine s_val rfl (v_move rfl) ?_
          refine s_val rfl (v_len_slice Tryz.underlying76 rfl) ?_
          refine s_val rfl (v_gtr rfl rfl) ?_
          refine s_val rfl (v_assign rfl) ?_
          refine x_nil ?_
          refine n_then ?_
          refine x_if rfl ?_ ?_
          · intro c4
            refine x_skip ?_
            refine n_then ?_
            refine x_ift rfl ?_
            refine x_seq ?_
            refine x_region ?_
            refine s_val rfl (v_assign rfl) ?_
            refine s_val rfl (v_assign rfl) ?_
            refine x_nil ?_
            refine n_then ?_
            refine x_ret ?_
            refine r_block ?_
            refine r_then ?_
            refine x_done (.inl rfl) (.cons (r_tmp rfl) (.cons (r_tmp rfl) .nil)) ?_
            refine ⟨_, ⟨?_, rfl⟩, inferInstance⟩
            have hi : inB n at_ w = false := by
              rw [← Bool.not_eq_true, inB_iff]; omega
            simp [pack, winV, hi]
          · intro c4
            refine x_region ?_
            refine s_val rfl (v_move rfl) ?_
            refine s_val rfl (v_move rfl) ?_
            refine s_val rfl (v_len_slice Tryz.underlying76 rfl) ?_
            refine s_val rfl (v_move rfl) ?_
            refine s_val rfl (v_sub rfl rfl (by first | exact w64 (by omega) | rfl)) ?_
            refine s_val rfl (v_gtr rfl rfl) ?_
            refine s_val rfl (v_assign rfl) ?_
            refine x_nil ?_
            refine n_then ?_
            refine x_if rfl ?_ ?_
            · intro c5
              refine x_seq ?_
              refine x_region ?_
              refine s_val rfl (v_assign rfl) ?_
              refine s_val rfl (v_assign rfl) ?_
              refine x_nil ?_
              refine n_then ?_
              refine x_ret ?_
              refine r_block ?_
              refine r_then ?_
              refine x_done (.inl rfl) (.cons (r_tmp rfl) (.cons (r_tmp rfl) .nil)) ?_
              refine ⟨_, ⟨?_, rfl⟩, inferInstance⟩
              have hi : inB n at_ w = false := by
                rw [← Bool.not_eq_true, inB_iff]; omega
              simp [pack, winV, hi]
            · intro c5
              refine x_skip ?_
              refine n_block ?_
              refine n_then ?_
              refine x_seq ?_
              have hi : inB n at_ w = true := inB_iff.2 ⟨by omega, by omega, by omega, by omega⟩
              obtain ⟨i, k, rfl, rfl, hk, hik⟩ := inB_nat hi
              refine x_region ?_
              refine s_val rfl (v_move rfl) ?_
              refine s_val rfl (v_move rfl) ?_
              refine s_val rfl (v_move rfl) ?_
              refine s_val rfl (v_move rfl) ?_
              refine s_val rfl (v_add rfl rfl (by rw [w64 (by omega)]; exact (Int.natCast_add i k).symm : IntKind.wrap .i64 ((i : Int) + (k : Int)) = ((i + k : Nat) : Int))) ?_
              refine s_val rfl (v_move rfl) ?_
              refine s_val rfl (v_move rfl) ?_
              refine s_val rfl (v_add rfl rfl (by rw [w64 (by omega)]; exact (Int.natCast_add i k).symm : IntKind.wrap .i64 ((i : Int) + (k : Int)) = ((i + k : Nat) : Int))) ?_
              refine s_val rfl (v_slice3 Tryz.underlying76 Tryz.sizeOf5 rfl rfl rfl rfl rfl rfl rfl (by omega) (by omega) (by omega) (by omega) (by first | exact Nat.zero_add _ | rfl)) ?_
              refine s_val rfl (v_assign rfl) ?_
              refine s_val rfl (v_assign rfl) ?_
              refine x_nil ?_
              refine n_then ?_
              refine x_ret ?_
              refine x_done (.inl rfl) (.cons (r_tmp rfl) (.cons (r_tmp rfl) .nil)) ?_
              refine ⟨_, ⟨?_, rfl⟩, inferInstance⟩
              simp [pack, winV, hi]
    · intro g1_7
      refine s_no rfl rfl rfl rfl ?_
      refine s_val rfl (v_pick_f rfl rfl) ?_
      refine s_val rfl (v_assign rfl) ?_
      refine x_nil ?_
      refine n_then ?_
      refine x_iff rfl ?_
      refine x_seq ?_
      refine x_seq ?_
      refine x_region ?_
      refine s_val rfl (v_move rfl) ?_
      refine s_val rfl (v_lss rfl rfl) ?_
      refine s_val rfl (v_assign rfl) ?_
      refine x_nil ?_
      refine n_then ?_
      refine x_if rfl ?_ ?_
      · intro c3
        refine x_skip ?_
        refine n_then ?_
        refine x_ift rfl ?_
        refine x_seq ?_
        refine x_region ?_
        refine s_val rfl (v_assign rfl) ?_
        refine s_val rfl (v_assign rfl) ?_
        refine x_nil ?_
        refine n_then ?_
        refine x_ret ?_
        refine r_block ?_
        refine r_then ?_
        refine x_done (.inl rfl) (.cons (r_tmp rfl) (.cons (r_tmp rfl) .nil)) ?_
        refine ⟨_, ⟨?_, rfl⟩, inferInstance⟩
        have hi : inB n at_ w = false := by
          rw [← Bool.not_eq_true, inB_iff]; omega
        simp [pack, winV, hi]
      · intro c3
        refine x_seq ?_
        refine x_region ?_
        refine s_val rfl (v_move rfl) ?_
        refine s_val rfl (v_move rfl) ?_
        refine s_val rfl (v_len_slice Tryz.underlying76 rfl) ?_
        refine s_val rfl (v_gtr rfl rfl) ?_
        refine s_val rfl (v_assign rfl) ?_
        refine x_nil ?_
        refine n_then ?_
        refine x_if rfl ?_ ?_
        · intro c4
          refine x_skip ?_
          refine n_then ?_
          refine x_ift rfl ?_
          refine x_seq ?_
          refine x_region ?_
          refine s_val rfl (v_assign rfl) ?_
          refine s_val rfl (v_assign rfl) ?_
          refine x_nil ?_
          refine n_then ?_
          refine x_ret ?_
          refine r_block ?_
          refine r_then ?_
          refine x_done (.inl rfl) (.cons (r_tmp rfl) (.cons (r_tmp rfl) .nil)) ?_
          refine ⟨_, ⟨?_, rfl⟩, inferInstance⟩
          have hi : inB n at_ w = false := by
            rw [← Bool.not_eq_true, inB_iff]; omega
          simp [pack, winV, hi]
        · intro c4
          refine x_region ?_
          refine s_val rfl (v_move rfl) ?_
          refine s_val rfl (v_move rfl) ?_
          refine s_val rfl (v_len_slice Tryz.underlying76 rfl) ?_
          refine s_val rfl (v_move rfl) ?_
          refine s_val rfl (v_sub rfl rfl (by first | exact w64 (by omega) | rfl)) ?_
          refine s_val rfl (v_gtr rfl rfl) ?_
          refine s_val rfl (v_assign rfl) ?_
          refine x_nil ?_
          refine n_then ?_
          refine x_if rfl ?_ ?_
          · intro c5
            refine x_seq ?_
            refine x_region ?_
            refine s_val rfl (v_assign rfl) ?_
            refine s_val rfl (v_assign rfl) ?_
            refine x_nil ?_
            refine n_then ?_
            refine x_ret ?_
            refine r_block ?_
            refine r_then ?_
            refine x_done (.inl rfl) (.cons (r_tmp rfl) (.cons (r_tmp rfl) .nil)) ?_
            refine ⟨_, ⟨?_, rfl⟩, inferInstance⟩
            have hi : inB n at_ w = false := by
              rw [← Bool.not_eq_true, inB_iff]; omega
            simp [pack, winV, hi]
          · intro c5
            refine x_skip ?_
            refine n_block ?_
            refine n_then ?_
            refine x_seq ?_
            have hi : inB n at_ w = true := inB_iff.2 ⟨by omega, by omega, by omega, by omega⟩
            obtain ⟨i, k, rfl, rfl, hk, hik⟩ := inB_nat hi
            refine x_region ?_
            refine s_val rfl (v_move rfl) ?_
            refine s_val rfl (v_move rfl) ?_
            refine s_val rfl (v_move rfl) ?_
            refine s_val rfl (v_move rfl) ?_
            refine s_val rfl (v_add rfl rfl (by rw [w64 (by omega)]; exact (Int.natCast_add i k).symm : IntKind.wrap .i64 ((i : Int) + (k : Int)) = ((i + k : Nat) : Int))) ?_
            refine s_val rfl (v_move rfl) ?_
            refine s_val rfl (v_move rfl) ?_
            refine s_val rfl (v_add rfl rfl (by rw [w64 (by omega)]; exact (Int.natCast_add i k).symm : IntKind.wrap .i64 ((i : Int) + (k : Int)) = ((i + k : Nat) : Int))) ?_
            refine s_val rfl (v_slice3 Tryz.underlying76 Tryz.sizeOf5 rfl rfl rfl rfl rfl rfl rfl (by omega) (by omega) (by omega) (by omega) (by first | exact Nat.zero_add _ | rfl)) ?_
            refine s_val rfl (v_assign rfl) ?_
            refine s_val rfl (v_assign rfl) ?_
            refine x_nil ?_
            refine n_then ?_
            refine x_ret ?_
            refine x_done (.inl rfl) (.cons (r_tmp rfl) (.cons (r_tmp rfl) .nil)) ?_
            refine ⟨_, ⟨?_, rfl⟩, inferInstance⟩
            simp [pack, winV, hi]
  · intro g1_3
    refine s_no rfl rfl rfl rfl ?_
    refine s_val rfl (v_pick_f rfl rfl) ?_
    refine s_val rfl (v_move rfl) ?_
    refine s_no rfl rfl rfl rfl ?_
    refine s_no rfl rfl rfl rfl ?_
    refine s_val rfl (v_pick_f rfl rfl) ?_
    refine s_val rfl (v_assign rfl) ?_
    refine x_nil ?_
    refine n_then ?_
    refine x_iff rfl ?_
    refine x_seq ?_
    refine x_seq ?_
    refine x_region ?_
    refine s_val rfl (v_move rfl) ?_
    refine s_val rfl (v_lss rfl rfl) ?_
    refine s_val rfl (v_assign rfl) ?_
    refine x_nil ?_
    refine n_then ?_
    refine x_if rfl ?_ ?_
    · intro c3
      refine x_skip ?_
      refine n_then ?_
      refine x_ift rfl ?_
      refine x_seq ?_
      refine x_region ?_
      refine s_val rfl (v_assign rfl) ?_
      refine s_val rfl (v_assign rfl) ?_
      refine x_nil ?_
      refine n_then ?_
      refine x_ret ?_
      refine r_block ?_
      refine r_then ?_
      refine x_done (.inl rfl) (.cons (r_tmp rfl) (.cons (r_tmp rfl) .nil)) ?_
      refine ⟨_, ⟨?_, rfl⟩, inferInstance⟩
      have hi : inB n at_ w = false := by
        rw [← Bool.not_eq_true, inB_iff]; omega
      simp [pack, winV, hi]
    · intro c3
      refine x_seq ?_
      refine x_region ?_
      refine s_val rfl (v_move rfl) ?_
      refine s_val rfl (v_move rfl) ?_
      refine s_val rfl (v_len_slice Tryz.underlying76 rfl) ?_
      refine s_val rfl (v_gtr rfl rfl) ?_
      refine s_val rfl (v_assign rfl) ?_
      refine x_nil ?_
      refine n_then ?_
      refine x_if rfl ?_ ?_
      · intro c4
        refine x_skip ?_
        refine n_then ?_
        refine x_ift rfl ?_
        refine x_seq ?_
        refine x_region ?_
        refine s_val rfl (v_assign rfl) ?_
        refine s_val rfl (v_assign rfl) ?_
        refine x_nil ?_
        refine n_then ?_
        refine x_ret ?_
        refine r_block ?_
        refine r_then ?_
        refine x_done (.inl rfl) (.cons (r_tmp rfl) (.cons (r_tmp rfl) .nil)) ?_
        refine ⟨_, ⟨?_, rfl⟩, inferInstance⟩
        have hi : inB n at_ w = false := by
          rw [← Bool.not_eq_true, inB_iff]; omega
        simp [pack, winV, hi]
      · intro c4
        refine x_region ?_
        refine s_val rfl (v_move rfl) ?_
        refine s_val rfl (v_move rfl) ?_
        refine s_val rfl (v_len_slice Tryz.underlying76 rfl) ?_
        refine s_val rfl (v_move rfl) ?_
        refine s_val rfl (v_sub rfl rfl (by first | exact w64 (by omega) | rfl)) ?_
        refine s_val rfl (v_gtr rfl rfl) ?_
        refine s_val rfl (v_assign rfl) ?_
        refine x_nil ?_
        refine n_then ?_
        refine x_if rfl ?_ ?_
        · intro c5
          refine x_seq ?_
          refine x_region ?_
          refine s_val rfl (v_assign rfl) ?_
          refine s_val rfl (v_assign rfl) ?_
          refine x_nil ?_
          refine n_then ?_
          refine x_ret ?_
          refine r_block ?_
          refine r_then ?_
          refine x_done (.inl rfl) (.cons (r_tmp rfl) (.cons (r_tmp rfl) .nil)) ?_
          refine ⟨_, ⟨?_, rfl⟩, inferInstance⟩
          have hi : inB n at_ w = false := by
            rw [← Bool.not_eq_true, inB_iff]; omega
          simp [pack, winV, hi]
        · intro c5
          refine x_skip ?_
          refine n_block ?_
          refine n_then ?_
          refine x_seq ?_
          have hi : inB n at_ w = true := inB_iff.2 ⟨by omega, by omega, by omega, by omega⟩
          obtain ⟨i, k, rfl, rfl, hk, hik⟩ := inB_nat hi
          refine x_region ?_
          refine s_val rfl (v_move rfl) ?_
          refine s_val rfl (v_move rfl) ?_
          refine s_val rfl (v_move rfl) ?_
          refine s_val rfl (v_move rfl) ?_
          refine s_val rfl (v_add rfl rfl (by rw [w64 (by omega)]; exact (Int.natCast_add i k).symm : IntKind.wrap .i64 ((i : Int) + (k : Int)) = ((i + k : Nat) : Int))) ?_
          refine s_val rfl (v_move rfl) ?_
          refine s_val rfl (v_move rfl) ?_
          refine s_val rfl (v_add rfl rfl (by rw [w64 (by omega)]; exact (Int.natCast_add i k).symm : IntKind.wrap .i64 ((i : Int) + (k : Int)) = ((i + k : Nat) : Int))) ?_
          refine s_val rfl (v_slice3 Tryz.underlying76 Tryz.sizeOf5 rfl rfl rfl rfl rfl rfl rfl (by omega) (by omega) (by omega) (by omega) (by first | exact Nat.zero_add _ | rfl)) ?_
          refine s_val rfl (v_assign rfl) ?_
          refine s_val rfl (v_assign rfl) ?_
          refine x_nil ?_
          refine n_then ?_
          refine x_ret ?_
          refine x_done (.inl rfl) (.cons (r_tmp rfl) (.cons (r_tmp rfl) .nil)) ?_
          refine ⟨_, ⟨?_, rfl⟩, inferInstance⟩
          simp [pack, winV, hi]

/-- Not all there: whatever the slice. -/
theorem windowN_spec (W0 : World) (R : List HP) (a : Option Addr) (n c : Nat) (at_ w : Int) (hi : inB n at_ w = false) (hn : n < 9223372036854775808) :
    Spec Tryz.prog W0 232 [.slice a n c, .int .i64 at_, .int .i64 w] R (fun v B => v = .tuple #[.slice none 0 0, .bool false] ∧ B = R) := by
  have hq : ¬ ((w = 1 ∨ w = 2 ∨ w = 4) ∧ 0 ≤ at_ ∧ at_ ≤ n ∧ w ≤ n - at_) := fun h => by rw [inB_iff.2 h] at hi; cases hi
  refine spec_body Tryz.func232 Tryz.ntmps232 rfl rfl ?_
  refine x_seq ?_
  refine x_region ?_
  refine s_val rfl (v_assign rfl) ?_
  refine s_val rfl (v_assign rfl) ?_
  refine x_nil ?_
  refine n_then ?_
  refine x_seq ?_
  refine x_block ?_
  refine x_seq ?_
  refine x_region ?_
  refine s_val rfl (v_move rfl) ?_
  refine s_val rfl (v_neq rfl rfl) ?_
  refine s_val rfl (v_move rfl) ?_
  refine s_and rfl rfl rfl ?_ ?_
  · intro g1_3
    refine s_val rfl (v_move rfl) ?_
    refine s_yes rfl rfl ?_
    refine s_val rfl (v_neq rfl rfl) ?_
    refine s_val rfl (v_pick_t rfl rfl) ?_
    refine s_val rfl (v_move rfl) ?_
    refine s_and rfl rfl rfl ?_ ?_
    · intro g1_7
      refine s_val rfl (v_move rfl) ?_
      refine s_yes rfl rfl ?_
      refine s_val rfl (v_neq rfl rfl) ?_
      refine s_val rfl (v_pick_t rfl rfl) ?_
      refine s_val rfl (v_assign rfl) ?_
      refine x_nil ?_
      refine n_then ?_
      refine x_if rfl ?_ ?_
      · intro c1
        refine x_seq ?_
        refine x_region ?_
        refine s_val rfl (v_assign rfl) ?_
        refine s_val rfl (v_assign rfl) ?_
        refine x_nil ?_
        refine n_then ?_
        refine x_ret ?_
        refine r_block ?_
        refine r_then ?_
        refine x_done (.inl rfl) (.cons (r_tmp rfl) (.cons (r_tmp rfl) .nil)) ?_
        exact ⟨_, ⟨rfl, rfl⟩, inferInstance⟩
      · intro c1
        refine x_seq ?_
        refine x_seq ?_
        refine x_region ?_
        refine s_val rfl (v_move rfl) ?_
        refine s_val rfl (v_lss rfl rfl) ?_
        refine s_val rfl (v_assign rfl) ?_
        refine x_nil ?_
        refine n_then ?_
        refine x_if rfl ?_ ?_
        · intro c3
          refine x_skip ?_
          refine n_then ?_
          refine x_ift rfl ?_
          refine x_seq ?_
          refine x_region ?_
          refine s_val rfl (v_assign rfl) ?_
          refine s_val rfl (v_assign rfl) ?_
          refine x_nil ?_
          refine n_then ?_
          refine x_ret ?_
          refine r_block ?_
          refine r_then ?_
          refine x_done (.inl rfl) (.cons (r_tmp rfl) (.cons (r_tmp rfl) .nil)) ?_
          exact ⟨_, ⟨rfl, rfl⟩, inferInstance⟩
        · intro c3
          refine x_seq ?_
          refine x_region ?_
          refine s_val rfl (v_move rfl) ?_
          refine s_val rfl (v_move rfl) ?_
          refine s_val rfl (v_len_slice Tryz.underlying76 rfl) ?_
          refine s_val rfl (v_gtr rfl rfl) ?_
          refine s_val rfl (v_assign rfl) ?_
          refine x_nil ?_
          refine n_then ?_
          refine x_if rfl ?_ ?_
          · intro c4
            refine x_skip ?_
            refine n_then ?_
            refine x_ift rfl ?_
            refine x_seq ?_
            refine x_region ?_
            refine s_val rfl (v_assign rfl) ?_
            refine s_val rfl (v_assign rfl) ?_
            refine x_nil ?_
            refine n_then ?_
            refine x_ret ?_
            refine r_block ?_
            refine r_then ?_
            refine x_done (.inl rfl) (.cons (r_tmp rfl) (.cons (r_tmp rfl) .nil)) ?_
            exact ⟨_, ⟨rfl, rfl⟩, inferInstance⟩
          · intro c4
            refine x_region ?_
            refine s_val rfl (v_move rfl) ?_
            refine s_val rfl (v_move rfl) ?_
            refine s_val rfl (v_len_slice Tryz.underlying76 rfl) ?_
            refine s_val rfl (v_move rfl) ?_
            refine s_val rfl (v_sub rfl rfl (by first | exact w64 (by omega) | rfl)) ?_
            refine s_val rfl (v_gtr rfl rfl) ?_
            refine s_val rfl (v_assign rfl) ?_
            refine x_nil ?_
            refine n_then ?_
            refine x_if rfl ?_ ?_
            · intro c5
              refine x_seq ?_
              refine x_region ?_
              refine s_val rfl (v_assign rfl) ?_
              refine s_val rfl (v_assign rfl) ?_
              refine x_nil ?_
              refine n_then ?_
              refine x_ret ?_
              refine r_block ?_
              refine r_then ?_
              refine x_done (.inl rfl) (.cons (r_tmp rfl) (.cons (r_tmp rfl) .nil)) ?_
              exact ⟨_, ⟨rfl, rfl⟩, inferInstance⟩
            · intro c5
              exfalso; omega
    · intro g1_7
      refine s_no rfl rfl rfl rfl ?_
      refine s_val rfl (v_pick_f rfl rfl) ?_
      refine s_val rfl (v_assign rfl) ?_
      refine x_nil ?_
      refine n_then ?_
      refine x_iff rfl ?_
      refine x_seq ?_
      refine x_seq ?_
      refine x_region ?_
      refine s_val rfl (v_move rfl) ?_
      refine s_val rfl (v_lss rfl rfl) ?_
      refine s_val rfl (v_assign rfl) ?_
      refine x_nil ?_
      refine n_then ?_
      refine x_if rfl ?_ ?_
      · intro c3
        refine x_skip ?_
        refine n_then ?_
        refine x_ift rfl ?_
        refine x_seq ?_
        refine x_region ?_
        refine s_val rfl (v_assign rfl) ?_
        refine s_val rfl (v_assign rfl) ?_
        refine x_nil ?_
        refine n_then ?_
        refine x_ret ?_
        refine r_block ?_
        refine r_then ?_
        refine x_done (.inl rfl) (.cons (r_tmp rfl) (.cons (r_tmp rfl) .nil)) ?_
        exact ⟨_, ⟨rfl, rfl⟩, inferInstance⟩
      · intro c3
        refine x_seq ?_
        refine x_region ?_
        refine s_val rfl (v_move rfl) ?_
        refine s_val rfl (v_move rfl) ?_
        refine s_val rfl (v_len_slice Tryz.underlying76 rfl) ?_
        refine s_val rfl (v_gtr rfl rfl) ?_
        refine s_val rfl (v_assign rfl) ?_
        refine x_nil ?_
        refine n_then ?_
        refine x_if rfl ?_ ?_
        · intro c4
          refine x_skip ?_
          refine n_then ?_
          refine x_ift rfl ?_
          refine x_seq ?_
          refine x_region ?_
          refine s_val rfl (v_assign rfl) ?_
          refine s_val rfl (v_assign rfl) ?_
          refine x_nil ?_
          refine n_then ?_
          refine x_ret ?_
          refine r_block ?_
          refine r_then ?_
          refine x_done (.inl rfl) (.cons (r_tmp rfl) (.cons (r_tmp rfl) .nil)) ?_
          exact ⟨_, ⟨rfl, rfl⟩, inferInstance⟩
        · intro c4
          refine x_region ?_
          refine s_val rfl (v_move rfl) ?_
          refine s_val rfl (v_move rfl) ?_
          refine s_val rfl (v_len_slice Tryz.underlying76 rfl) ?_
          refine s_val rfl (v_move rfl) ?_
          refine s_val rfl (v_sub rfl rfl (by first | exact w64 (by omega) | rfl)) ?_
          refine s_val rfl (v_gtr rfl rfl) ?_
          refine s_val rfl (v_assign rfl) ?_
          refine x_nil ?_
          refine n_then ?_
          refine x_if rfl ?_ ?_
          · intro c5
            refine x_seq ?_
            refine x_region ?_
            refine s_val rfl (v_assign rfl) ?_
            refine s_val rfl (v_assign rfl) ?_
            refine x_nil ?_
            refine n_then ?_
            refine x_ret ?_
            refine r_block ?_
            refine r_then ?_
            refine x_done (.inl rfl) (.cons (r_tmp rfl) (.cons (r_tmp rfl) .nil)) ?_
            exact ⟨_, ⟨rfl, rfl⟩, inferInstance⟩
          · intro c5
            exfalso; omega
  · intro g1_3
    refine s_no rfl rfl rfl rfl ?_
    refine s_val rfl (v_pick_f rfl rfl) ?_
    refine s_val rfl (v_move rfl) ?_
    refine s_no rfl rfl rfl rfl ?_
    refine s_no rfl rfl rfl rfl ?_
    refine s_val rfl (v_pick_f rfl rfl) ?_
    refine s_val rfl (v_assign rfl) ?_
    refine x_nil ?_
    refine n_then ?_
    refine x_iff rfl ?_
    refine x_seq ?_
    refine x_seq ?_
    refine x_region ?_
    refine s_val rfl (v_move rfl) ?_
    refine s_val rfl (v_lss rfl rfl) ?_
    refine s_val rfl (v_assign rfl) ?_
    refine x_nil ?_
    refine n_then ?_
    refine x_if rfl ?_ ?_
    · intro c3
      refine x_skip ?_
      refine n_then ?_
      refine x_ift rfl ?_
      refine x_seq ?_
      refine x_region ?_
      refine s_val rfl (v_assign rfl) ?_
      refine s_val rfl (v_assign rfl) ?_
      refine x_nil ?_
      refine n_then ?_
      refine x_ret ?_
      refine r_block ?_
      refine r_then ?_
      refine x_done (.inl rfl) (.cons (r_tmp rfl) (.cons (r_tmp rfl) .nil)) ?_
      exact ⟨_, ⟨rfl, rfl⟩, inferInstance⟩
    · intro c3
      refine x_seq ?_
      refine x_region ?_
      refine s_val rfl (v_move rfl) ?_
      refine s_val rfl (v_move rfl) ?_
      refine s_val rfl (v_len_slice Tryz.underlying76 rfl) ?_
      refine s_val rfl (v_gtr rfl rfl) ?_
      refine s_val rfl (v_assign rfl) ?_
      refine x_nil ?_
      refine n_then ?_
      refine x_if rfl ?_ ?_
      · intro c4
        refine x_skip ?_
        refine n_then ?_
        refine x_ift rfl ?_
        refine x_seq ?_
        refine x_region ?_
        refine s_val rfl (v_assign rfl) ?_
        refine s_val rfl (v_assign rfl) ?_
        refine x_nil ?_
        refine n_then ?_
        refine x_ret ?_
        refine r_block ?_
        refine r_then ?_
        refine x_done (.inl rfl) (.cons (r_tmp rfl) (.cons (r_tmp rfl) .nil)) ?_
        exact ⟨_, ⟨rfl, rfl⟩, inferInstance⟩
      · intro c4
        refine x_region ?_
        refine s_val rfl (v_move rfl) ?_
        refine s_val rfl (v_move rfl) ?_
        refine s_val rfl (v_len_slice Tryz.underlying76 rfl) ?_
        refine s_val rfl (v_move rfl) ?_
        refine s_val rfl (v_sub rfl rfl (by first | exact w64 (by omega) | rfl)) ?_
        refine s_val rfl (v_gtr rfl rfl) ?_
        refine s_val rfl (v_assign rfl) ?_
        refine x_nil ?_
        refine n_then ?_
        refine x_if rfl ?_ ?_
        · intro c5
          refine x_seq ?_
          refine x_region ?_
          refine s_val rfl (v_assign rfl) ?_
          refine s_val rfl (v_assign rfl) ?_
          refine x_nil ?_
          refine n_then ?_
          refine x_ret ?_
          refine r_block ?_
          refine r_then ?_
          refine x_done (.inl rfl) (.cons (r_tmp rfl) (.cons (r_tmp rfl) .nil)) ?_
          exact ⟨_, ⟨rfl, rfl⟩, inferInstance⟩
        · intro c5
          exfalso; omega

theorem gather_spec (W0 : World) (R : List HP) (g off c : Nat) (l : List Nat) (hc : Cells (OwnP W0 R) g off (byV l)) (hl : l.length ≤ 4) (hb : By l) :
    Spec Tryz.prog W0 233 [.slice (some ⟨g, off, none⟩) l.length c] R (fun v B => v = .int .u32 (leN l : Nat) ∧ B = R) := by
  refine spec_body Tryz.func233 Tryz.ntmps233 rfl rfl ?_
  refine x_seq ?_
  refine x_region ?_
  refine s_val rfl (v_assign rfl) ?_
  refine x_nil ?_
  refine n_then ?_
  refine x_seq ?_
  refine x_region ?_
  refine s_val rfl (v_assign rfl) ?_
  refine x_nil ?_
  refine n_then ?_
  refine x_seq ?_
  refine x_seq ?_
  refine x_region ?_
  refine s_val rfl (v_move rfl) ?_
  refine s_val rfl (v_len_slice Tryz.underlying76 rfl) ?_
  refine s_val rfl (v_move rfl) ?_
  refine x_nil ?_
  refine n_then ?_
  refine x_block ?_
  refine x_loop (fun i : Nat => i ≤ l.length) (fun i => [(0, .slice (some ⟨g, off, none⟩) l.length c), (3, .int .u32 (leN (l.take i) : Nat)), (6, .int .i64 (l.length : Nat)), (7, .int .i64 i)]) (fun _ => R) (fun i => l.length - i) 0 ?_ ?_ ?_ ?_
  · exact Nat.zero_le _
  · repeat (first | exact sub_nil | refine sub_cons rfl ?_)
  · exact inferInstance
  · intro i hi
    refine x_seq ?_
    refine x_region ?_
    refine s_val rfl (v_lss rfl rfl) ?_
    refine x_nil ?_
    refine n_then ?_
    refine x_seq ?_
    refine x_if rfl ?_ ?_
    · intro c3
      refine x_skip ?_
      refine n_then ?_
      refine x_seq ?_
      refine x_block ?_
      refine x_seq ?_
      refine x_region ?_
      refine s_val rfl (v_move rfl) ?_
      refine s_val rfl (v_assign rfl) ?_
      refine x_nil ?_
      refine n_then ?_
      have hil : i < l.length := by omega
      have hbi := hb.get hil
      have hlt := leN_lt (hb.take i)
      rw [List.length_take, Nat.min_eq_left (by omega)] at hlt
      refine x_region ?_
      refine s_val rfl (v_move rfl) ?_
      refine s_val rfl (v_move rfl) ?_
      refine s_val rfl (v_move rfl) ?_
      refine s_val rfl (v_idx Tryz.underlying76 Tryz.sizeOf5 rfl rfl rfl hil (by first | exact Nat.zero_add _ | rfl)) ?_
      refine s_val rfl (v_load Tryz.isAgg5 rfl (by have := hc i (bV l[i]) (byV_get l i hil); rwa [Nat.mul_one])) ?_
      refine s_val rfl (v_conv Tryz.underlying5 Tryz.underlying53 rfl (w32u (by omega))) ?_
      refine s_val rfl (v_move rfl) ?_
      refine s_val rfl (v_mul rfl rfl (by rw [w64 (by omega)]; omega : IntKind.wrap .i64 (8 * (i : Int)) = ((8 * i : Nat) : Int))) ?_
      refine s_val rfl (v_shl rfl rfl (by omega) (shl_byte hbi (by omega))) ?_
      refine s_val rfl (v_or rfl rfl ((or_byte hlt hbi (by omega)).trans (congrArg _ (leN_take hil).symm))) ?_
      refine s_val rfl (v_assign rfl) ?_
      refine x_nil ?_
      refine n_block ?_
      refine n_then ?_
      refine x_region ?_
      refine s_val rfl (v_add rfl rfl (by first | exact w64 (by omega) | rfl)) ?_
      refine s_val rfl (v_move rfl) ?_
      refine x_nil ?_
      refine n_then ?_
      refine inv_intro (i + 1) ?_ ?_ ?_ ?_
      · omega
      · omega
      · repeat (first | exact sub_nil | refine sub_cons rfl ?_)
      · exact inferInstance
    · intro c3
      refine x_exit ?_
      refine e_then ?_
      refine e_then ?_
      refine e_block ?_
      refine n_then ?_
      refine x_seq ?_
      refine x_region ?_
      refine s_val rfl (v_move rfl) ?_
      refine s_val rfl (v_assign rfl) ?_
      refine x_nil ?_
      refine n_then ?_
      refine x_ret ?_
      refine x_done (.inl rfl) (.cons (r_tmp rfl) .nil) ?_
      refine ⟨_, ⟨?_, rfl⟩, inferInstance⟩
      have : i = l.length := by omega
      subst this; simp [pack]

theorem Cells.part {S : World → Prop} {b off : Nat} {l : List Nat} (h : Cells S b off (byV l)) (i k : Nat) (hik : i + k ≤ l.length) : Cells S b (off + i) (byV ((l.drop i).take k)) := fun j v hv => by
  have hj : j < k := by
    rcases Nat.lt_or_ge j k with q | q
    · exact q
    · rw [List.getElem?_eq_none (by rw [byV_len, List.length_take]; omega)] at hv; cases hv
  have := h (i + j) v (by
    rw [byV, List.getElem?_map, List.getElem?_take_of_lt hj, List.getElem?_drop] at hv
    rw [byV, List.getElem?_map]; exact hv)
  rwa [← Nat.add_assoc] at this

def getN (l : List Nat) (at_ w : Int) : Nat := if inB l.length at_ w then leN ((l.drop at_.toNat).take w.toNat) else 0
def getE (l : List Nat) (at_ w : Int) : Int := if inB l.length at_ w then 0 else 1
theorem getN_lt {l : List Nat} {at_ w : Int} (hb : By l) : getN l at_ w < 4294967296 := by
  unfold getN; split
  · rename_i h
    obtain ⟨i, k, rfl, rfl, hk, hik⟩ := inB_nat h
    have := leN_lt ((hb.drop i).take k)
    simp only [List.length_take, List.length_drop, Int.toNat_natCast] at this ⊢
    have e : min k (l.length - i) = k := by omega
    rw [e] at this
    rcases hk with rfl | rfl | rfl <;> omega
  · omega
theorem octGet_spec (W0 : World) (R : List HP) (g off c : Nat) (l : List Nat) (at_ w : Int) (hc : Cells (OwnP W0 R) g off (byV l)) (hb : By l) (hn : l.length ≤ c) (h63 : c < 9223372036854775808) :
    Spec Tryz.prog W0 187 [.slice (some ⟨g, off, none⟩) l.length c, .int .i64 at_, .int .i64 w] R (fun v B => v = .tuple #[.int .u32 (getN l at_ w : Nat), .int .i64 (getE l at_ w)] ∧ B = R) := by
  by_cases hi : inB l.length at_ w = true
  · obtain ⟨i, k, rfl, rfl, hk, hik⟩ := inB_nat hi
    have hw : winV g off l.length i k = .tuple #[.slice (some ⟨g, off + i, none⟩) ((l.drop i).take k).length k, .bool true] := by
      have : min k (l.length - i) = k := by omega
      simp [winV, hi, this]
    refine spec_body Tryz.func187 Tryz.ntmps187 rfl rfl ?_
    refine x_seq ?_
    refine x_region ?_
    refine s_val rfl (v_assign rfl) ?_
    refine s_val rfl (v_assign rfl) ?_
    refine x_nil ?_
    refine n_then ?_
    refine x_seq ?_
    refine x_region ?_
    refine s_val rfl (v_move rfl) ?_
    refine s_val rfl (v_move rfl) ?_
    refine s_val rfl (v_move rfl) ?_
    refine s_do rfl (d_call Tryz.call232 rfl (window_spec W0 _ g off l.length c i k hn h63)) ?_
    rintro _ B_ ⟨rfl, hB_⟩
    obtain rfl := hB_.symm
    rw [hw]
    refine s_val rfl (v_move rfl) ?_
    refine s_val rfl (v_extract rfl rfl) ?_
    refine s_val rfl (v_extract rfl rfl) ?_
    refine s_val rfl (v_assign rfl) ?_
    refine s_val rfl (v_assign rfl) ?_
    refine x_nil ?_
    refine n_then ?_
    refine x_seq ?_
    refine x_seq ?_
    refine x_region ?_
    refine s_val rfl (v_move rfl) ?_
    refine s_val rfl (v_not rfl) ?_
    refine x_nil ?_
    refine n_then ?_
    refine x_if rfl ?_ ?_
    · intro c2
      exact absurd c2 (by simp)
    · intro c2
      refine x_skip ?_
      refine n_then ?_
      refine x_seq ?_
      refine x_region ?_
      refine s_val rfl (v_move rfl) ?_
      refine s_do rfl (d_call Tryz.call233 rfl (gather_spec W0 _ g (off + i) k ((l.drop i).take k) (hc.part i k hik) (by rw [List.length_take]; omega) ((hb.drop i).take k))) ?_
      rintro _ B_ ⟨rfl, hB_⟩
      obtain rfl := hB_.symm
      refine s_val rfl (v_assign rfl) ?_
      refine s_val rfl (v_assign rfl) ?_
      refine x_nil ?_
      refine n_then ?_
      refine x_ret ?_
      refine x_done (.inl rfl) (.cons (r_tmp rfl) (.cons (r_tmp rfl) .nil)) ?_
      refine ⟨_, ⟨?_, rfl⟩, inferInstance⟩
      simp [pack, getN, getE, hi]
  · have hi' : inB l.length at_ w = false := by simpa using hi
    have hw : winV g off l.length at_ w = .tuple #[.slice none 0 0, .bool false] := by simp [winV, hi']
    refine spec_body Tryz.func187 Tryz.ntmps187 rfl rfl ?_
    refine x_seq ?_
    refine x_region ?_
    refine s_val rfl (v_assign rfl) ?_
    refine s_val rfl (v_assign rfl) ?_
    refine x_nil ?_
    refine n_then ?_
    refine x_seq ?_
    refine x_region ?_
    refine s_val rfl (v_move rfl) ?_
    refine s_val rfl (v_move rfl) ?_
    refine s_val rfl (v_move rfl) ?_
    refine s_do rfl (d_call Tryz.call232 rfl (window_spec W0 _ g off l.length c at_ w hn h63)) ?_
    rintro _ B_ ⟨rfl, hB_⟩
    obtain rfl := hB_.symm
    rw [hw]
    refine s_val rfl (v_move rfl) ?_
    refine s_val rfl (v_extract rfl rfl) ?_
    refine s_val rfl (v_extract rfl rfl) ?_
    refine s_val rfl (v_assign rfl) ?_
    refine s_val rfl (v_assign rfl) ?_
    refine x_nil ?_
    refine n_then ?_
    refine x_seq ?_
    refine x_seq ?_
    refine x_region ?_
    refine s_val rfl (v_move rfl) ?_
    refine s_val rfl (v_not rfl) ?_
    refine x_nil ?_
    refine n_then ?_
    refine x_if rfl ?_ ?_
    · intro c2
      refine x_seq ?_
      refine x_region ?_
      refine s_val rfl (v_assign rfl) ?_
      refine s_val rfl (v_assign rfl) ?_
      refine x_nil ?_
      refine n_then ?_
      refine x_ret ?_
      refine r_then ?_
      refine x_done (.inl rfl) (.cons (r_tmp rfl) (.cons (r_tmp rfl) .nil)) ?_
      refine ⟨_, ⟨?_, rfl⟩, inferInstance⟩
      simp [pack, getN, getE, hi']
    · intro c2
      exact absurd c2 (by simp)

theorem spread_spec (W0 : World) (R : List HP) (g off n c ty : Nat) (L : List Value) (w : Nat) (hw : w < 4294967296) (hn : n ≤ 4) (hL : off + n ≤ L.length) :
    Spec Tryz.prog W0 225 [.slice (some ⟨g, off, none⟩) n c, .int .u32 w] (pt g (cob L ty) :: R) (fun v B => v = .tuple #[] ∧ B = pt g (cob (setR L off (byV (leB n w))) ty) :: R) := by
  refine spec_body Tryz.func225 Tryz.ntmps225 rfl rfl ?_
  refine x_seq ?_
  refine x_region ?_
  refine s_val rfl (v_move rfl) ?_
  refine s_val rfl (v_len_slice Tryz.underlying76 rfl) ?_
  refine s_val rfl (v_move rfl) ?_
  refine x_nil ?_
  refine n_then ?_
  refine x_block ?_
  refine x_loop (fun i : Nat => i ≤ n) (fun i => [(0, .slice (some ⟨g, off, none⟩) n c), (1, .int .u32 w), (6, .int .i64 n), (7, .int .i64 i)]) (fun i => pt g (cob (setR L off (byV (leB i w))) ty) :: R) (fun i => n - i) 0 ?_ ?_ ?_ ?_
  · exact Nat.zero_le _
  · repeat (first | exact sub_nil | refine sub_cons rfl ?_)
  · rw [show setR L off (byV (leB 0 w)) = L from rfl]; exact inferInstance
  · intro i hi
    refine x_seq ?_
    refine x_region ?_
    refine s_val rfl (v_lss rfl rfl) ?_
    refine x_nil ?_
    refine n_then ?_
    refine x_seq ?_
    refine x_if rfl ?_ ?_
    · intro c1
      refine x_skip ?_
      refine n_then ?_
      refine x_seq ?_
      refine x_block ?_
      refine x_seq ?_
      refine x_region ?_
      refine s_val rfl (v_move rfl) ?_
      refine s_val rfl (v_assign rfl) ?_
      refine x_nil ?_
      refine n_then ?_
      refine x_region ?_
      refine s_val rfl (v_move rfl) ?_
      refine s_val rfl (v_move rfl) ?_
      refine s_val rfl (v_move rfl) ?_
      refine s_val rfl (v_move rfl) ?_
      refine s_val rfl (v_mul rfl rfl (by rw [w64 (by omega)]; omega : IntKind.wrap .i64 (8 * (i : Int)) = ((8 * i : Nat) : Int))) ?_
      refine s_val rfl (v_shr rfl rfl (by omega) rfl) ?_
      refine s_val rfl (v_conv Tryz.underlying53 Tryz.underlying5 rfl (byte_of (by omega))) ?_
      refine s_val rfl (v_idx Tryz.underlying76 Tryz.sizeOf5 rfl rfl rfl (by omega) (by first | exact Nat.zero_add _ | rfl)) ?_
      refine s_do0 (d_store Tryz.sizeOf5 rfl rfl rfl (by rw [setR_length]; omega) (by rw [leB_succ, byV_append, show byV [w / 256 ^ i % 256] = [bV (w / 256 ^ i % 256)] from rfl, setR_snoc, byV_len, leB_len, Nat.mul_one]; rfl : (setR L off (byV (leB i w))).set (off + i * 1) _ = setR L off (byV (leB (i + 1) w)))) ?_
      rintro _ _ rfl
      refine x_nil ?_
      refine n_block ?_
      refine n_then ?_
      refine x_region ?_
      refine s_val rfl (v_add rfl rfl (by first | exact w64 (by omega) | rfl)) ?_
      refine s_val rfl (v_move rfl) ?_
      refine x_nil ?_
      refine n_then ?_
      refine inv_intro (i + 1) ?_ ?_ ?_ ?_
      · omega
      · omega
      · repeat (first | exact sub_nil | refine sub_cons rfl ?_)
      · exact inferInstance
    · intro c1
      refine x_exit ?_
      refine e_then ?_
      refine e_then ?_
      refine e_block ?_
      refine x_done (.inr rfl) .nil ?_
      have : i = n := by omega
      subst this
      exact ⟨_, ⟨rfl, rfl⟩, inferInstance⟩

theorem clone_spec (W0 : World) (R : List HP) (g off c : Nat) (l : List Nat) (hc : Cells (OwnP W0 R) g off (byV l)) (hn : l.length ≤ 1000000) :
    Spec Tryz.prog W0 236 [.slice (some ⟨g, off, none⟩) l.length c] R (fun v B => ∃ a' c', v = .slice a' l.length c' ∧ B = osl 5 1 (.slice a' l.length c') (byV l) :: R) := by
  refine spec_body Tryz.func236 Tryz.ntmps236 rfl rfl ?_
  refine x_seq ?_
  refine x_region ?_
  refine s_val rfl (v_assign rfl) ?_
  refine x_nil ?_
  refine n_then ?_
  refine x_seq ?_
  refine x_seq ?_
  refine x_region ?_
  refine s_val rfl (v_move rfl) ?_
  refine s_val rfl (v_eql_slice_nil Tryz.underlying76 rfl rfl) ?_
  refine x_nil ?_
  refine n_then ?_
  refine x_if rfl ?_ ?_
  · intro c1
    cases c1
  · intro c1
    refine x_skip ?_
    refine n_then ?_
    refine x_seq ?_
    refine x_region ?_
    refine s_do rfl (d_slice0 Tryz.underlying76 Tryz.sizeOf5 rfl) ?_
    rintro _ _ ⟨b1, rfl, rfl⟩
    refine s_val rfl (v_move rfl) ?_
    refine s_do rfl (d_append (sz := 1) (by_ := 1) (info := Tryz.t5) Tryz.underlying76 (by kernel_rfl) rfl rfl rfl rfl (by decide) rfl rfl hc.weak ((byV_len l).trans (Nat.mul_one _).symm) (byV_one l) (by simp only [maxLen]; omega) (by omega)) ?_
    rintro _ _ ⟨a1, c1, rfl, rfl⟩
    refine s_val rfl (v_assign rfl) ?_
    refine x_nil ?_
    refine n_then ?_
    refine x_ret ?_
    refine x_done (.inl rfl) (.cons (r_tmp rfl) .nil) ?_
    exact ⟨_, ⟨a1, c1, by simp [pack], rfl⟩, by simpa using (ent_refl : Ent _ _)⟩

theorem refIn_spec (W0 : World) (R : List HP) (a : Option Addr) (n c : Nat) (at_ w : Int) (hn : n < 9223372036854775808) :
    Spec Tryz.prog W0 198 [.slice a n c, .int .i64 at_, .int .i64 w] R (fun v B => v = .bool (inB n at_ w) ∧ B = R) := by
  refine spec_body Tryz.func198 Tryz.ntmps198 rfl rfl ?_
  refine x_seq ?_
  refine x_region ?_
  refine s_val rfl (v_assign rfl) ?_
  refine x_nil ?_
  refine n_then ?_
  refine x_seq ?_
  refine x_seq ?_
  refine x_region ?_
  refine s_val rfl (v_move rfl) ?_
  refine s_val rfl (v_neq rfl rfl) ?_
  refine s_val rfl (v_move rfl) ?_
  refine s_and rfl rfl rfl ?_ ?_
  · intro g1_3
    refine s_val rfl (v_move rfl) ?_
    refine s_yes rfl rfl ?_
    refine s_val rfl (v_neq rfl rfl) ?_
    refine s_val rfl (v_pick_t rfl rfl) ?_
    refine s_val rfl (v_move rfl) ?_
    refine s_and rfl rfl rfl ?_ ?_
    · intro g1_7
      refine s_val rfl (v_move rfl) ?_
      refine s_yes rfl rfl ?_
      refine s_val rfl (v_neq rfl rfl) ?_
      refine s_val rfl (v_pick_t rfl rfl) ?_
      refine x_nil ?_
      refine n_then ?_
      refine x_if rfl ?_ ?_
      · intro c1
        refine x_seq ?_
        refine x_region ?_
        refine s_val rfl (v_assign rfl) ?_
        refine x_nil ?_
        refine n_then ?_
        refine x_ret ?_
        refine r_then ?_
        refine x_done (.inl rfl) (.cons (r_tmp rfl) .nil) ?_
        refine ⟨_, ⟨?_, rfl⟩, inferInstance⟩
        have hi : inB n at_ w = false := by
          rw [← Bool.not_eq_true, inB_iff]; omega
        simp [pack, hi]
      · intro c1
        refine x_skip ?_
        refine n_then ?_
        refine x_seq ?_
        refine x_region ?_
        refine s_val rfl (v_move rfl) ?_
        refine s_val rfl (v_geq rfl rfl) ?_
        refine s_val rfl (v_move rfl) ?_
        refine s_and rfl rfl rfl ?_ ?_
        · intro g3_3
          refine s_val rfl (v_move rfl) ?_
          refine s_yes rfl rfl ?_
          refine s_val rfl (v_move rfl) ?_
          refine s_yes rfl rfl ?_
          refine s_val rfl (v_len_slice Tryz.underlying76 rfl) ?_
          refine s_yes rfl rfl ?_
          refine s_val rfl (v_leq rfl rfl) ?_
          refine s_val rfl (v_pick_t rfl rfl) ?_
          refine s_val rfl (v_move rfl) ?_
          refine s_and rfl rfl rfl ?_ ?_
          · intro g3_9
            refine s_val rfl (v_move rfl) ?_
            refine s_yes rfl rfl ?_
            refine s_val rfl (v_len_slice Tryz.underlying76 rfl) ?_
            refine s_yes rfl rfl ?_
            refine s_val rfl (v_move rfl) ?_
            refine s_yes rfl rfl ?_
            refine s_val rfl (v_sub rfl rfl (w64 (by omega))) ?_
            refine s_yes rfl rfl ?_
            refine s_val rfl (v_move rfl) ?_
            refine s_yes rfl rfl ?_
            refine s_val rfl (v_geq rfl rfl) ?_
            refine s_val rfl (v_pick_t rfl rfl) ?_
            refine s_val rfl (v_assign rfl) ?_
            refine x_nil ?_
            refine n_then ?_
            refine x_ret ?_
            refine x_done (.inl rfl) (.cons (r_tmp rfl) .nil) ?_
            refine ⟨_, ⟨?_, rfl⟩, inferInstance⟩
            refine congrArg Value.bool ?_
            rw [Bool.eq_iff_iff, inB_iff]; simp only [Bool.false_eq_true, false_iff, decide_eq_true_eq]; omega
          · intro g3_9
            refine s_no rfl rfl rfl rfl ?_
            refine s_no rfl rfl rfl rfl ?_
            refine s_no rfl rfl rfl rfl ?_
            refine s_no rfl rfl rfl rfl ?_
            refine s_no rfl rfl rfl rfl ?_
            refine s_val rfl (v_pick_f rfl rfl) ?_
            refine s_val rfl (v_assign rfl) ?_
            refine x_nil ?_
            refine n_then ?_
            refine x_ret ?_
            refine x_done (.inl rfl) (.cons (r_tmp rfl) .nil) ?_
            refine ⟨_, ⟨?_, rfl⟩, inferInstance⟩
            refine congrArg Value.bool ?_
            rw [Bool.eq_iff_iff, inB_iff]; simp only [Bool.false_eq_true, false_iff, decide_eq_true_eq]; omega
        · intro g3_3
          refine s_no rfl rfl rfl rfl ?_
          refine s_no rfl rfl rfl rfl ?_
          refine s_no rfl rfl rfl rfl ?_
          refine s_val rfl (v_pick_f rfl rfl) ?_
          refine s_val rfl (v_move rfl) ?_
          refine s_no rfl rfl rfl rfl ?_
          refine s_no rfl rfl rfl rfl ?_
          refine s_no rfl rfl rfl rfl ?_
          refine s_no rfl rfl rfl rfl ?_
          refine s_no rfl rfl rfl rfl ?_
          refine s_no rfl rfl rfl rfl ?_
          refine s_val rfl (v_pick_f rfl rfl) ?_
          refine s_val rfl (v_assign rfl) ?_
          refine x_nil ?_
          refine n_then ?_
          refine x_ret ?_
          refine x_done (.inl rfl) (.cons (r_tmp rfl) .nil) ?_
          refine ⟨_, ⟨?_, rfl⟩, inferInstance⟩
          refine congrArg Value.bool ?_
          rw [Bool.eq_iff_iff, inB_iff]; simp only [Bool.false_eq_true, false_iff, decide_eq_true_eq]; omega
    · intro g1_7
      refine s_no rfl rfl rfl rfl ?_
      refine s_val rfl (v_pick_f rfl rfl) ?_
      refine x_nil ?_
      refine n_then ?_
      refine x_iff rfl ?_
      refine x_skip ?_
      refine n_then ?_
      refine x_seq ?_
      refine x_region ?_
      refine s_val rfl (v_move rfl) ?_
      refine s_val rfl (v_geq rfl rfl) ?_
      refine s_val rfl (v_move rfl) ?_
      refine s_and rfl rfl rfl ?_ ?_
      · intro g3_3
        refine s_val rfl (v_move rfl) ?_
        refine s_yes rfl rfl ?_
        refine s_val rfl (v_move rfl) ?_
        refine s_yes rfl rfl ?_
        refine s_val rfl (v_len_slice Tryz.underlying76 rfl) ?_
        refine s_yes rfl rfl ?_
        refine s_val rfl (v_leq rfl rfl) ?_
        refine s_val rfl (v_pick_t rfl rfl) ?_
        refine s_val rfl (v_move rfl) ?_
        refine s_and rfl rfl rfl ?_ ?_
        · intro g3_9
          refine s_val rfl (v_move rfl) ?_
          refine s_yes rfl rfl ?_
          refine s_val rfl (v_len_slice Tryz.underlying76 rfl) ?_
          refine s_yes rfl rfl ?_
          refine s_val rfl (v_move rfl) ?_
          refine s_yes rfl rfl ?_
          refine s_val rfl (v_sub rfl rfl (w64 (by omega))) ?_
          refine s_yes rfl rfl ?_
          refine s_val rfl (v_move rfl) ?_
          refine s_yes rfl rfl ?_
          refine s_val rfl (v_geq rfl rfl) ?_
          refine s_val rfl (v_pick_t rfl rfl) ?_
          refine s_val rfl (v_assign rfl) ?_
          refine x_nil ?_
          refine n_then ?_
          refine x_ret ?_
          refine x_done (.inl rfl) (.cons (r_tmp rfl) .nil) ?_
          refine ⟨_, ⟨?_, rfl⟩, inferInstance⟩
          refine congrArg Value.bool ?_
          rw [Bool.eq_iff_iff, inB_iff]; simp only [Bool.false_eq_true, false_iff, decide_eq_true_eq]; omega
        · intro g3_9
          refine s_no rfl rfl rfl rfl ?_
          refine s_no rfl rfl rfl rfl ?_
          refine s_no rfl rfl rfl rfl ?_
          refine s_no rfl rfl rfl rfl ?_
          refine s_no rfl rfl rfl rfl ?_
          refine s_val rfl (v_pick_f rfl rfl) ?_
          refine s_val rfl (v_assign rfl) ?_
          refine x_nil ?_
          refine n_then ?_
          refine x_ret ?_
          refine x_done (.inl rfl) (.cons (r_tmp rfl) .nil) ?_
          refine ⟨_, ⟨?_, rfl⟩, inferInstance⟩
          refine congrArg Value.bool ?_
          rw [Bool.eq_iff_iff, inB_iff]; simp only [Bool.false_eq_true, false_iff, decide_eq_true_eq]; omega
      · intro g3_3
        refine s_no rfl rfl rfl rfl ?_
        refine s_no rfl rfl rfl rfl ?_
        refine s_no rfl rfl rfl rfl ?_
        refine s_val rfl (v_pick_f rfl rfl) ?_
        refine s_val rfl (v_move rfl) ?_
        refine s_no rfl rfl rfl rfl ?_
        refine s_no rfl rfl rfl rfl ?_
        refine s_no rfl rfl rfl rfl ?_
        refine s_no rfl rfl rfl rfl ?_
        refine s_no rfl rfl rfl rfl ?_
        refine s_no rfl rfl rfl rfl ?_
        refine s_val rfl (v_pick_f rfl rfl) ?_
        refine s_val rfl (v_assign rfl) ?_
        refine x_nil ?_
        refine n_then ?_
        refine x_ret ?_
        refine x_done (.inl rfl) (.cons (r_tmp rfl) .nil) ?_
        refine ⟨_, ⟨?_, rfl⟩, inferInstance⟩
        refine congrArg Value.bool ?_
        rw [Bool.eq_iff_iff, inB_iff]; simp only [Bool.false_eq_true, false_iff, decide_eq_true_eq]; omega
  · intro g1_3
    refine s_no rfl rfl rfl rfl ?_
    refine s_val rfl (v_pick_f rfl rfl) ?_
    refine s_val rfl (v_move rfl) ?_
    refine s_no rfl rfl rfl rfl ?_
    refine s_no rfl rfl rfl rfl ?_
    refine s_val rfl (v_pick_f rfl rfl) ?_
    refine x_nil ?_
    refine n_then ?_
    refine x_iff rfl ?_
    refine x_skip ?_
    refine n_then ?_
    refine x_seq ?_
    refine x_region ?_
    refine s_val rfl (v_move rfl) ?_
    refine s_val rfl (v_geq rfl rfl) ?_
    refine s_val rfl (v_move rfl) ?_
    refine s_and rfl rfl rfl ?_ ?_
    · intro g3_3
      refine s_val rfl (v_move rfl) ?_
      refine s_yes rfl rfl ?_
      refine s_val rfl (v_move rfl) ?_
      refine s_yes rfl rfl ?_
      refine s_val rfl (v_len_slice Tryz.underlying76 rfl) ?_
      refine s_yes rfl rfl ?_
      refine s_val rfl (v_leq rfl rfl) ?_
      refine s_val rfl (v_pick_t rfl rfl) ?_
      refine s_val rfl (v_move rfl) ?_
      refine s_and rfl rfl rfl ?_ ?_
      · intro g3_9
        refine s_val rfl (v_move rfl) ?_
        refine s_yes rfl rfl ?_
        refine s_val rfl (v_len_slice Tryz.underlying76 rfl) ?_
        refine s_yes rfl rfl ?_
        refine s_val rfl (v_move rfl) ?_
        refine s_yes rfl rfl ?_
        refine s_val rfl (v_sub rfl rfl (w64 (by omega))) ?_
        refine s_yes rfl rfl ?_
        refine s_val rfl (v_move rfl) ?_
        refine s_yes rfl rfl ?_
        refine s_val rfl (v_geq rfl rfl) ?_
        refine s_val rfl (v_pick_t rfl rfl) ?_
        refine s_val rfl (v_assign rfl) ?_
        refine x_nil ?_
        refine n_then ?_
        refine x_ret ?_
        refine x_done (.inl rfl) (.cons (r_tmp rfl) .nil) ?_
        refine ⟨_, ⟨?_, rfl⟩, inferInstance⟩
        refine congrArg Value.bool ?_
        rw [Bool.eq_iff_iff, inB_iff]; simp only [Bool.false_eq_true, false_iff, decide_eq_true_eq]; omega
      · intro g3_9
        refine s_no rfl rfl rfl rfl ?_
        refine s_no rfl rfl rfl rfl ?_
        refine s_no rfl rfl rfl rfl ?_
        refine s_no rfl rfl rfl rfl ?_
        refine s_no rfl rfl rfl rfl ?_
        refine s_val rfl (v_pick_f rfl rfl) ?_
        refine s_val rfl (v_assign rfl) ?_
        refine x_nil ?_
        refine n_then ?_
        refine x_ret ?_
        refine x_done (.inl rfl) (.cons (r_tmp rfl) .nil) ?_
        refine ⟨_, ⟨?_, rfl⟩, inferInstance⟩
        refine congrArg Value.bool ?_
        rw [Bool.eq_iff_iff, inB_iff]; simp only [Bool.false_eq_true, false_iff, decide_eq_true_eq]; omega
    · intro g3_3
      refine s_no rfl rfl rfl rfl ?_
      refine s_no rfl rfl rfl rfl ?_
      refine s_no rfl rfl rfl rfl ?_
      refine s_val rfl (v_pick_f rfl rfl) ?_
      refine s_val rfl (v_move rfl) ?_
      refine s_no rfl rfl rfl rfl ?_
      refine s_no rfl rfl rfl rfl ?_
      refine s_no rfl rfl rfl rfl ?_
      refine s_no rfl rfl rfl rfl ?_
      refine s_no rfl rfl rfl rfl ?_
      refine s_no rfl rfl rfl rfl ?_
      refine s_val rfl (v_pick_f rfl rfl) ?_
      refine s_val rfl (v_assign rfl) ?_
      refine x_nil ?_
      refine n_then ?_
      refine x_ret ?_
      refine x_done (.inl rfl) (.cons (r_tmp rfl) .nil) ?_
      refine ⟨_, ⟨?_, rfl⟩, inferInstance⟩
      refine congrArg Value.bool ?_
      rw [Bool.eq_iff_iff, inB_iff]; simp only [Bool.false_eq_true, false_iff, decide_eq_true_eq]; omega
theorem refGet02_spec (W0 : World) (R : List HP) (g off c : Nat) (l : List Nat) (at_ w : Int) (hc : Cells (OwnP W0 R) g off (byV l)) (hb : By l) (hn : l.length ≤ c) (h63 : c < 9223372036854775808) :
    Spec Tryz.prog W0 135 [.slice (some ⟨g, off, none⟩) l.length c, .int .i64 at_, .int .i64 w] R (fun v B => v = .tuple #[.int .u32 (getN l at_ w : Nat), .int .i64 (getE l at_ w)] ∧ B = R) := by
  by_cases hi : inB l.length at_ w = true
  · obtain ⟨i0, k, rfl, rfl, hk, hik⟩ := inB_nat hi
    have hlen : ((l.drop i0).take k).length = k := by simp; omega
    have hb' := (hb.drop i0).take k
    have hc' := hc.part i0 k hik
    have hget : getN l i0 k = leN ((l.drop i0).take k) := by simp [getN, hi]
    generalize (l.drop i0).take k = m at hlen hb' hc' hget
    refine spec_body Tryz.func135 Tryz.ntmps135 rfl rfl ?_
    refine x_seq ?_
    refine x_region ?_
    refine s_val rfl (v_assign rfl) ?_
    refine s_val rfl (v_assign rfl) ?_
    refine x_nil ?_
    refine n_then ?_
    refine x_seq ?_
    refine x_seq ?_
    refine x_region ?_
    refine s_val rfl (v_move rfl) ?_
    refine s_val rfl (v_move rfl) ?_
    refine s_val rfl (v_move rfl) ?_
    refine s_do rfl (d_call Tryz.call198 rfl (refIn_spec W0 _ _ l.length c i0 k (by omega))) ?_
    rintro _ B_ ⟨rfl, hB_⟩
    obtain rfl := hB_.symm
    refine s_val rfl (v_not rfl) ?_
    refine x_nil ?_
    refine n_then ?_
    refine x_if rfl ?_ ?_
    · intro c1
      exact absurd c1 (by simp [hi])
    · intro c1
      refine x_skip ?_
      refine n_then ?_
      refine x_seq ?_
      refine x_region ?_
      refine s_val rfl (v_assign rfl) ?_
      refine x_nil ?_
      refine n_then ?_
      refine x_seq ?_
      refine x_seq ?_
      refine x_region ?_
      refine s_val rfl (v_assign rfl) ?_
      refine x_nil ?_
      refine n_then ?_
      refine x_block ?_
      refine x_loop (fun i : Nat => i ≤ k) (fun i => [(0, .slice (some ⟨g, off, none⟩) l.length c), (1, .int .i64 i0), (2, .int .i64 k), (8, .int .u32 (leN (m.take i) : Nat)), (9, .int .i64 i)]) (fun _ => R) (fun i => k - i) 0 ?_ ?_ ?_ ?_
      · exact Nat.zero_le _
      · repeat (first | exact sub_nil | refine sub_cons rfl ?_)
      · exact inferInstance
      · intro i hik2
        refine x_seq ?_
        refine x_seq ?_
        refine x_region ?_
        refine s_val rfl (v_move rfl) ?_
        refine s_val rfl (v_move rfl) ?_
        refine s_val rfl (v_lss rfl rfl) ?_
        refine x_nil ?_
        refine n_then ?_
        refine x_if rfl ?_ ?_
        · intro c5
          refine x_skip ?_
          refine n_then ?_
          refine x_seq ?_
          refine x_block ?_
          have hil : i < m.length := by omega
          have hbi := hb'.get hil
          have hlt := leN_lt (hb'.take i)
          rw [List.length_take, Nat.min_eq_left (by omega)] at hlt
          refine x_region ?_
          refine s_val rfl (v_move rfl) ?_
          refine s_val rfl (v_move rfl) ?_
          refine s_val rfl (v_move rfl) ?_
          refine s_val rfl (v_move rfl) ?_
          refine s_val rfl (v_add rfl rfl (by rw [w64 (by omega)]; omega : IntKind.wrap .i64 ((i0 : Int) + (i : Int)) = ((i0 + i : Nat) : Int))) ?_
          refine s_val rfl (v_idx Tryz.underlying76 Tryz.sizeOf5 rfl rfl rfl (by omega) (by first | exact Nat.zero_add _ | rfl)) ?_
          refine s_val rfl (v_load Tryz.isAgg5 rfl (by have := hc' i (bV m[i]) (byV_get m i hil); rwa [Nat.mul_one, ← Nat.add_assoc])) ?_
          refine s_val rfl (v_conv Tryz.underlying5 Tryz.underlying53 rfl (w32u (by omega))) ?_
          refine s_val rfl (v_move rfl) ?_
          refine s_val rfl (v_mul rfl rfl (by rw [w64 (by omega)]; omega : IntKind.wrap .i64 (8 * (i : Int)) = ((8 * i : Nat) : Int))) ?_
          refine s_val rfl (v_shl rfl rfl (by omega) (shl_byte hbi (by omega))) ?_
          refine s_val rfl (v_add rfl rfl ((add_byte hlt hbi (by omega)).trans (congrArg _ (leN_take hil).symm))) ?_
          refine s_val rfl (v_assign rfl) ?_
          refine x_nil ?_
          refine n_block ?_
          refine n_then ?_
          refine x_region ?_
          refine s_val rfl (v_move rfl) ?_
          refine s_val rfl (v_add rfl rfl (by first | exact w64 (by omega) | rfl)) ?_
          refine s_val rfl (v_assign rfl) ?_
          refine x_nil ?_
          refine n_then ?_
          refine inv_intro (i + 1) ?_ ?_ ?_ ?_
          · omega
          · omega
          · repeat (first | exact sub_nil | refine sub_cons rfl ?_)
          · exact inferInstance
        · intro c5
          refine x_exit ?_
          refine e_then ?_
          refine e_then ?_
          refine e_block ?_
          refine n_then ?_
          refine x_seq ?_
          refine x_region ?_
          refine s_val rfl (v_move rfl) ?_
          refine s_val rfl (v_assign rfl) ?_
          refine s_val rfl (v_assign rfl) ?_
          refine x_nil ?_
          refine n_then ?_
          refine x_ret ?_
          refine x_done (.inl rfl) (.cons (r_tmp rfl) (.cons (r_tmp rfl) .nil)) ?_
          refine ⟨_, ⟨?_, rfl⟩, inferInstance⟩
          have : i = m.length := by omega
          subst this; simp [pack, hget, getE, hi]
  · have hi' : inB l.length at_ w = false := by simpa using hi
    refine spec_body Tryz.func135 Tryz.ntmps135 rfl rfl ?_
    refine x_seq ?_
    refine x_region ?_
    refine s_val rfl (v_assign rfl) ?_
    refine s_val rfl (v_assign rfl) ?_
    refine x_nil ?_
    refine n_then ?_
    refine x_seq ?_
    refine x_seq ?_
    refine x_region ?_
    refine s_val rfl (v_move rfl) ?_
    refine s_val rfl (v_move rfl) ?_
    refine s_val rfl (v_move rfl) ?_
    refine s_do rfl (d_call Tryz.call198 rfl (refIn_spec W0 _ _ l.length c at_ w (by omega))) ?_
    rintro _ B_ ⟨rfl, hB_⟩
    obtain rfl := hB_.symm
    refine s_val rfl (v_not rfl) ?_
    refine x_nil ?_
    refine n_then ?_
    refine x_if rfl ?_ ?_
    · intro c1
      refine x_seq ?_
      refine x_region ?_
      refine s_val rfl (v_assign rfl) ?_
      refine s_val rfl (v_assign rfl) ?_
      refine x_nil ?_
      refine n_then ?_
      refine x_ret ?_
      refine r_then ?_
      refine x_done (.inl rfl) (.cons (r_tmp rfl) (.cons (r_tmp rfl) .nil)) ?_
      refine ⟨_, ⟨?_, rfl⟩, inferInstance⟩
      simp [pack, getN, getE, hi']
    · intro c1
      exact absurd c1 (by simp [hi'])
end Go.Proofs.YtechkfopkpkigaaGreat
