/-
  Part 2 of the proof of MmuHolds: rules, and walks of functions. Conditions: none.
-/
import Derived.Test.YtllkdnadmmjehaaGreatDoorMmuHoldsA
namespace Go.Proofs.YtllkdnadmmjehaaGreatDoor
open Go.RowKit
set_option linter.unusedSimpArgs false
set_option linter.unusedVariables false
set_option maxRecDepth 20000
def winV (g off n : Nat) (at_ w : Int) : Value := if inB n at_ w then .tuple #[.slice (some ⟨g, off + at_.toNat, none⟩) w.toNat w.toNat, .bool true] else .tuple #[.slice none 0 0, .bool false]
theorem window_spec (W0 : World) (R : List HP) (g off n c : Nat) (at_ w : Int) (hn : n ≤ c) (h63 : c < 9223372036854775808) :
    Spec Tryz.prog W0 99 [.slice (some ⟨g, off, none⟩) n c, .int .i64 at_, .int .i64 w] R (fun v B => v = winV g off n at_ w ∧ B = R) := by
  refine spec_body Tryz.func99 Tryz.ntmps99 rfl rfl ?_
  refine x_seq (x_region (s_val rfl (v_assign rfl) (s_val rfl (v_assign rfl) (x_nil (n_then (x_seq (x_block (x_seq (x_region (s_val rfl (v_move rfl) (s_val rfl (v_neq rfl rfl) (s_val rfl (v_move rfl) ?_))))))))))))
  refine s_and rfl rfl rfl ?_ ?_
  · intro g1_3
    refine s_val rfl (v_move rfl) (s_yes rfl rfl (s_val rfl (v_neq rfl rfl) (s_val rfl (v_pick_t rfl rfl) (s_val rfl (v_move rfl) ?_))))
    refine s_and rfl rfl rfl ?_ ?_
    · intro g1_7
      refine s_val rfl (v_move rfl) (s_yes rfl rfl (s_val rfl (v_neq rfl rfl) (s_val rfl (v_pick_t rfl rfl) (s_val rfl (v_assign rfl) (x_nil (n_then ?_))))))
      refine x_if rfl ?_ ?_
      · intro c1
        refine x_seq (x_region (s_val rfl (v_assign rfl) (s_val rfl (v_assign rfl) (x_nil (n_then (x_ret (r_block (r_then (x_done (.inl rfl) (.cons (r_tmp rfl) (.cons (r_tmp rfl) .nil)) ?_)))))))))
        refine ⟨_, ⟨?_, rfl⟩, inferInstance⟩
        have hi : inB n at_ w = false := by
          rw [← Bool.not_eq_true, inB_iff]; omega
        simp [pack, winV, hi]
      · intro c1
        refine x_seq (x_seq (x_region (s_val rfl (v_move rfl) (s_val rfl (v_lss rfl rfl) (s_val rfl (v_assign rfl) (x_nil (n_then ?_)))))))
        refine x_if rfl ?_ ?_
        · intro c3
          refine x_skip (n_then (x_ift rfl (x_seq (x_region (s_val rfl (v_assign rfl) (s_val rfl (v_assign rfl) (x_nil (n_then (x_ret (r_block (r_then (x_done (.inl rfl) (.cons (r_tmp rfl) (.cons (r_tmp rfl) .nil)) ?_))))))))))))
          refine ⟨_, ⟨?_, rfl⟩, inferInstance⟩
          have hi : inB n at_ w = false := by
            rw [← Bool.not_eq_true, inB_iff]; omega
          simp [pack, winV, hi]
        · intro c3
          refine x_seq (x_region (s_val rfl (v_move rfl) (s_val rfl (v_move rfl) (s_val rfl (v_len_slice Tryz.underlying44 rfl) (s_val rfl (v_gtr rfl rfl) (s_val rfl (v_assign rfl) (x_nil (n_then ?_))))))))
          refine x_if rfl ?_ ?_
          · intro c4
            refine x_skip (n_then (x_ift rfl (x_seq (x_region (s_val rfl (v_assign rfl) (s_val rfl (v_assign rfl) (x_nil (n_then (x_ret (r_block (r_then (x_done (.inl rfl) (.cons (r_tmp rfl) (.cons (r_tmp rfl) .nil)) ?_))))))))))))
            refine ⟨_, ⟨?_, rfl⟩, inferInstance⟩
            have hi : inB n at_ w = false := by
              rw [← Bool.not_eq_true, inB_iff]; omega
            simp [pack, winV, hi]
          · intro c4
            refine x_region (s_val rfl (v_move rfl) (s_val rfl (v_move rfl) (s_val rfl (v_len_slice Tryz.underlying44 rfl) (s_val rfl (v_move rfl) ?_))))
            refine s_val rfl (v_sub rfl rfl (by first | exact w64 (by omega) | rfl)) ?_
            refine s_val rfl (v_gtr rfl rfl) (s_val rfl (v_assign rfl) (x_nil (n_then ?_)))
            refine x_if rfl ?_ ?_
            · intro c5
              refine x_seq (x_region (s_val rfl (v_assign rfl) (s_val rfl (v_assign rfl) (x_nil (n_then (x_ret (r_block (r_then (x_done (.inl rfl) (.cons (r_tmp rfl) (.cons (r_tmp rfl) .nil)) ?_)))))))))
              refine ⟨_, ⟨?_, rfl⟩, inferInstance⟩
              have hi : inB n at_ w = false := by
                rw [← Bool.not_eq_true, inB_iff]; omega
              simp [pack, winV, hi]
            · intro c5
              refine x_skip (n_block (n_then (x_seq ?_)))
              have hi : inB n at_ w = true := inB_iff.2 ⟨by omega, by omega, by omega, by omega⟩
              obtain ⟨i, k, rfl, rfl, hk, hik⟩ := inB_nat hi
              refine x_region (s_val rfl (v_move rfl) (s_val rfl (v_move rfl) (s_val rfl (v_move rfl) (s_val rfl (v_move rfl) ?_))))
              refine s_val rfl (v_add rfl rfl (by rw [w64 (by omega)]; exact (Int.natCast_add i k).symm : IntKind.wrap .i64 ((i : Int) + (k : Int)) = ((i + k : Nat) : Int))) ?_
              refine s_val rfl (v_move rfl) (s_val rfl (v_move rfl) ?_)
              refine s_val rfl (v_add rfl rfl (by rw [w64 (by omega)]; exact (Int.natCast_add i k).symm : IntKind.wrap .i64 ((i : Int) + (k : Int)) = ((i + k : Nat) : Int))) ?_
              refine s_val rfl (v_slice3 Tryz.underlying44 Tryz.sizeOf5 rfl rfl rfl rfl rfl rfl rfl (by omega) (by omega) (by omega) (by omega) (by first | exact Nat.zero_add _ | rfl)) ?_
              refine s_val rfl (v_assign rfl) (s_val rfl (v_assign rfl) (x_nil (n_then (x_ret (x_done (.inl rfl) (.cons (r_tmp rfl) (.cons (r_tmp rfl) .nil)) ?_)))))
              refine ⟨_, ⟨?_, rfl⟩, inferInstance⟩
              simp [pack, winV, hi]
    · intro g1_7
      refine s_no rfl rfl rfl rfl (s_val rfl (v_pick_f rfl rfl) (s_val rfl (v_assign rfl) (x_nil (n_then (x_iff rfl (x_seq (x_seq (x_region (s_val rfl (v_move rfl) (s_val rfl (v_lss rfl rfl) (s_val rfl (v_assign rfl) (x_nil (n_then ?_)))))))))))))
      refine x_if rfl ?_ ?_
      · intro c3
        refine x_skip (n_then (x_ift rfl (x_seq (x_region (s_val rfl (v_assign rfl) (s_val rfl (v_assign rfl) (x_nil (n_then (x_ret (r_block (r_then (x_done (.inl rfl) (.cons (r_tmp rfl) (.cons (r_tmp rfl) .nil)) ?_))))))))))))
        refine ⟨_, ⟨?_, rfl⟩, inferInstance⟩
        have hi : inB n at_ w = false := by
          rw [← Bool.not_eq_true, inB_iff]; omega
        simp [pack, winV, hi]
      · intro c3
        refine x_seq (x_region (s_val rfl (v_move rfl) (s_val rfl (v_move rfl) (s_val rfl (v_len_slice Tryz.underlying44 rfl) (s_val rfl (v_gtr rfl rfl) (s_val rfl (v_assign rfl) (x_nil (n_then ?_))))))))
        refine x_if rfl ?_ ?_
        · intro c4
          refine x_skip (n_then (x_ift rfl (x_seq (x_region (s_val rfl (v_assign rfl) (s_val rfl (v_assign rfl) (x_nil (n_then (x_ret (r_block (r_then (x_done (.inl rfl) (.cons (r_tmp rfl) (.cons (r_tmp rfl) .nil)) ?_))))))))))))
          refine ⟨_, ⟨?_, rfl⟩, inferInstance⟩
          have hi : inB n at_ w = false := by
            rw [← Bool.not_eq_true, inB_iff]; omega
          simp [pack, winV, hi]
        · intro c4
          refine x_region (s_val rfl (v_move rfl) (s_val rfl (v_move rfl) (s_val rfl (v_len_slice Tryz.underlying44 rfl) (s_val rfl (v_move rfl) ?_))))
          refine s_val rfl (v_sub rfl rfl (by first | exact w64 (by omega) | rfl)) ?_
          refine s_val rfl (v_gtr rfl rfl) (s_val rfl (v_assign rfl) (x_nil (n_then ?_)))
          refine x_if rfl ?_ ?_
          · intro c5
            refine x_seq (x_region (s_val rfl (v_assign rfl) (s_val rfl (v_assign rfl) (x_nil (n_then (x_ret (r_block (r_then (x_done (.inl rfl) (.cons (r_tmp rfl) (.cons (r_tmp rfl) .nil)) ?_)))))))))
            refine ⟨_, ⟨?_, rfl⟩, inferInstance⟩
            have hi : inB n at_ w = false := by
              rw [← Bool.not_eq_true, inB_iff]; omega
            simp [pack, winV, hi]
          · intro c5
            refine x_skip (n_block (n_then (x_seq ?_)))
            have hi : inB n at_ w = true := inB_iff.2 ⟨by omega, by omega, by omega, by omega⟩
            obtain ⟨i, k, rfl, rfl, hk, hik⟩ := inB_nat hi
            refine x_region (s_val rfl (v_move rfl) (s_val rfl (v_move rfl) (s_val rfl (v_move rfl) (s_val rfl (v_move rfl) ?_))))
            refine s_val rfl (v_add rfl rfl (by rw [w64 (by omega)]; exact (Int.natCast_add i k).symm : IntKind.wrap .i64 ((i : Int) + (k : Int)) = ((i + k : Nat) : Int))) ?_
            refine s_val rfl (v_move rfl) (s_val rfl (v_move rfl) ?_)
            refine s_val rfl (v_add rfl rfl (by rw [w64 (by omega)]; exact (Int.natCast_add i k).symm : IntKind.wrap .i64 ((i : Int) + (k : Int)) = ((i + k : Nat) : Int))) ?_
            refine s_val rfl (v_slice3 Tryz.underlying44 Tryz.sizeOf5 rfl rfl rfl rfl rfl rfl rfl (by omega) (by omega) (by omega) (by omega) (by first | exact Nat.zero_add _ | rfl)) ?_
            refine s_val rfl (v_assign rfl) (s_val rfl (v_assign rfl) (x_nil (n_then (x_ret (x_done (.inl rfl) (.cons (r_tmp rfl) (.cons (r_tmp rfl) .nil)) ?_)))))
            refine ⟨_, ⟨?_, rfl⟩, inferInstance⟩
            simp [pack, winV, hi]
  · intro g1_3
    refine s_no rfl rfl rfl rfl (s_val rfl (v_pick_f rfl rfl) (s_val rfl (v_move rfl) (s_no rfl rfl rfl rfl (s_no rfl rfl rfl rfl (s_val rfl (v_pick_f rfl rfl) (s_val rfl (v_assign rfl) (x_nil (n_then (x_iff rfl (x_seq (x_seq (x_region (s_val rfl (v_move rfl) (s_val rfl (v_lss rfl rfl) (s_val rfl (v_assign rfl) (x_nil (n_then ?_)))))))))))))))))
    refine x_if rfl ?_ ?_
    · intro c3
      refine x_skip (n_then (x_ift rfl (x_seq (x_region (s_val rfl (v_assign rfl) (s_val rfl (v_assign rfl) (x_nil (n_then (x_ret (r_block (r_then (x_done (.inl rfl) (.cons (r_tmp rfl) (.cons (r_tmp rfl) .nil)) ?_))))))))))))
      refine ⟨_, ⟨?_, rfl⟩, inferInstance⟩
      have hi : inB n at_ w = false := by
        rw [← Bool.not_eq_true, inB_iff]; omega
      simp [pack, winV, hi]
    · intro c3
      refine x_seq (x_region (s_val rfl (v_move rfl) (s_val rfl (v_move rfl) (s_val rfl (v_len_slice Tryz.underlying44 rfl) (s_val rfl (v_gtr rfl rfl) (s_val rfl (v_assign rfl) (x_nil (n_then ?_))))))))
      refine x_if rfl ?_ ?_
      · intro c4
        refine x_skip (n_then (x_ift rfl (x_seq (x_region (s_val rfl (v_assign rfl) (s_val rfl (v_assign rfl) (x_nil (n_then (x_ret (r_block (r_then (x_done (.inl rfl) (.cons (r_tmp rfl) (.cons (r_tmp rfl) .nil)) ?_))))))))))))
        refine ⟨_, ⟨?_, rfl⟩, inferInstance⟩
        have hi : inB n at_ w = false := by
          rw [← Bool.not_eq_true, inB_iff]; omega
        simp [pack, winV, hi]
      · intro c4
        refine x_region (s_val rfl (v_move rfl) (s_val rfl (v_move rfl) (s_val rfl (v_len_slice Tryz.underlying44 rfl) (s_val rfl (v_move rfl) ?_))))
        refine s_val rfl (v_sub rfl rfl (by first | exact w64 (by omega) | rfl)) ?_
        refine s_val rfl (v_gtr rfl rfl) (s_val rfl (v_assign rfl) (x_nil (n_then ?_)))
        refine x_if rfl ?_ ?_
        · intro c5
          refine x_seq (x_region (s_val rfl (v_assign rfl) (s_val rfl (v_assign rfl) (x_nil (n_then (x_ret (r_block (r_then (x_done (.inl rfl) (.cons (r_tmp rfl) (.cons (r_tmp rfl) .nil)) ?_)))))))))
          refine ⟨_, ⟨?_, rfl⟩, inferInstance⟩
          have hi : inB n at_ w = false := by
            rw [← Bool.not_eq_true, inB_iff]; omega
          simp [pack, winV, hi]
        · intro c5
          refine x_skip (n_block (n_then (x_seq ?_)))
          have hi : inB n at_ w = true := inB_iff.2 ⟨by omega, by omega, by omega, by omega⟩
          obtain ⟨i, k, rfl, rfl, hk, hik⟩ := inB_nat hi
          refine x_region (s_val rfl (v_move rfl) (s_val rfl (v_move rfl) (s_val rfl (v_move rfl) (s_val rfl (v_move rfl) ?_))))
          refine s_val rfl (v_add rfl rfl (by rw [w64 (by omega)]; exact (Int.natCast_add i k).symm : IntKind.wrap .i64 ((i : Int) + (k : Int)) = ((i + k : Nat) : Int))) ?_
          refine s_val rfl (v_move rfl) (s_val rfl (v_move rfl) ?_)
          refine s_val rfl (v_add rfl rfl (by rw [w64 (by omega)]; exact (Int.natCast_add i k).symm : IntKind.wrap .i64 ((i : Int) + (k : Int)) = ((i + k : Nat) : Int))) ?_
          refine s_val rfl (v_slice3 Tryz.underlying44 Tryz.sizeOf5 rfl rfl rfl rfl rfl rfl rfl (by omega) (by omega) (by omega) (by omega) (by first | exact Nat.zero_add _ | rfl)) ?_
          refine s_val rfl (v_assign rfl) (s_val rfl (v_assign rfl) (x_nil (n_then (x_ret (x_done (.inl rfl) (.cons (r_tmp rfl) (.cons (r_tmp rfl) .nil)) ?_)))))
          refine ⟨_, ⟨?_, rfl⟩, inferInstance⟩
          simp [pack, winV, hi]
theorem windowN_spec (W0 : World) (R : List HP) (a : Option Addr) (n c : Nat) (at_ w : Int) (hi : inB n at_ w = false) (hn : n < 9223372036854775808) :
    Spec Tryz.prog W0 99 [.slice a n c, .int .i64 at_, .int .i64 w] R (fun v B => v = .tuple #[.slice none 0 0, .bool false] ∧ B = R) := by
  have hq : ¬ ((w = 1 ∨ w = 2 ∨ w = 4) ∧ 0 ≤ at_ ∧ at_ ≤ n ∧ w ≤ n - at_) := fun h => by rw [inB_iff.2 h] at hi; cases hi
  refine spec_body Tryz.func99 Tryz.ntmps99 rfl rfl ?_
  refine x_seq (x_region (s_val rfl (v_assign rfl) (s_val rfl (v_assign rfl) (x_nil (n_then (x_seq (x_block (x_seq (x_region (s_val rfl (v_move rfl) (s_val rfl (v_neq rfl rfl) (s_val rfl (v_move rfl) ?_))))))))))))
  refine s_and rfl rfl rfl ?_ ?_
  · intro g1_3
    refine s_val rfl (v_move rfl) (s_yes rfl rfl (s_val rfl (v_neq rfl rfl) (s_val rfl (v_pick_t rfl rfl) (s_val rfl (v_move rfl) ?_))))
    refine s_and rfl rfl rfl ?_ ?_
    · intro g1_7
      refine s_val rfl (v_move rfl) (s_yes rfl rfl (s_val rfl (v_neq rfl rfl) (s_val rfl (v_pick_t rfl rfl) (s_val rfl (v_assign rfl) (x_nil (n_then ?_))))))
      refine x_if rfl ?_ ?_
      · intro c1
        refine x_seq (x_region (s_val rfl (v_assign rfl) (s_val rfl (v_assign rfl) (x_nil (n_then (x_ret (r_block (r_then (x_done (.inl rfl) (.cons (r_tmp rfl) (.cons (r_tmp rfl) .nil)) ?_)))))))))
        exact ⟨_, ⟨rfl, rfl⟩, inferInstance⟩
      · intro c1
        refine x_seq (x_seq (x_region (s_val rfl (v_move rfl) (s_val rfl (v_lss rfl rfl) (s_val rfl (v_assign rfl) (x_nil (n_then ?_)))))))
        refine x_if rfl ?_ ?_
        · intro c3
          refine x_skip (n_then (x_ift rfl (x_seq (x_region (s_val rfl (v_assign rfl) (s_val rfl (v_assign rfl) (x_nil (n_then (x_ret (r_block (r_then (x_done (.inl rfl) (.cons (r_tmp rfl) (.cons (r_tmp rfl) .nil)) ?_))))))))))))
          exact ⟨_, ⟨rfl, rfl⟩, inferInstance⟩
        · intro c3
          refine x_seq (x_region (s_val rfl (v_move rfl) (s_val rfl (v_move rfl) (s_val rfl (v_len_slice Tryz.underlying44 rfl) (s_val rfl (v_gtr rfl rfl) (s_val rfl (v_assign rfl) (x_nil (n_then ?_))))))))
          refine x_if rfl ?_ ?_
          · intro c4
            refine x_skip (n_then (x_ift rfl (x_seq (x_region (s_val rfl (v_assign rfl) (s_val rfl (v_assign rfl) (x_nil (n_then (x_ret (r_block (r_then (x_done (.inl rfl) (.cons (r_tmp rfl) (.cons (r_tmp rfl) .nil)) ?_))))))))))))
            exact ⟨_, ⟨rfl, rfl⟩, inferInstance⟩
          · intro c4
            refine x_region (s_val rfl (v_move rfl) (s_val rfl (v_move rfl) (s_val rfl (v_len_slice Tryz.underlying44 rfl) (s_val rfl (v_move rfl) ?_))))
            refine s_val rfl (v_sub rfl rfl (by first | exact w64 (by omega) | rfl)) ?_
            refine s_val rfl (v_gtr rfl rfl) (s_val rfl (v_assign rfl) (x_nil (n_then ?_)))
            refine x_if rfl ?_ ?_
            · intro c5
              refine x_seq (x_region (s_val rfl (v_assign rfl) (s_val rfl (v_assign rfl) (x_nil (n_then (x_ret (r_block (r_then (x_done (.inl rfl) (.cons (r_tmp rfl) (.cons (r_tmp rfl) .nil)) ?_)))))))))
              exact ⟨_, ⟨rfl, rfl⟩, inferInstance⟩
            · intro c5
              exfalso; omega
    · intro g1_7
      refine s_no rfl rfl rfl rfl (s_val rfl (v_pick_f rfl rfl) (s_val rfl (v_assign rfl) (x_nil (n_then (x_iff rfl (x_seq (x_seq (x_region (s_val rfl (v_move rfl) (s_val rfl (v_lss rfl rfl) (s_val rfl (v_assign rfl) (x_nil (n_then ?_)))))))))))))
      refine x_if rfl ?_ ?_
      · intro c3
        refine x_skip (n_then (x_ift rfl (x_seq (x_region (s_val rfl (v_assign rfl) (s_val rfl (v_assign rfl) (x_nil (n_then (x_ret (r_block (r_then (x_done (.inl rfl) (.cons (r_tmp rfl) (.cons (r_tmp rfl) .nil)) ?_))))))))))))
        exact ⟨_, ⟨rfl, rfl⟩, inferInstance⟩
      · intro c3
        refine x_seq (x_region (s_val rfl (v_move rfl) (s_val rfl (v_move rfl) (s_val rfl (v_len_slice Tryz.underlying44 rfl) (s_val rfl (v_gtr rfl rfl) (s_val rfl (v_assign rfl) (x_nil (n_then ?_))))))))
        refine x_if rfl ?_ ?_
        · intro c4
          refine x_skip (n_then (x_ift rfl (x_seq (x_region (s_val rfl (v_assign rfl) (s_val rfl (v_assign rfl) (x_nil (n_then (x_ret (r_block (r_then (x_done (.inl rfl) (.cons (r_tmp rfl) (.cons (r_tmp rfl) .nil)) ?_))))))))))))
          exact ⟨_, ⟨rfl, rfl⟩, inferInstance⟩
        · intro c4
          refine x_region (s_val rfl (v_move rfl) (s_val rfl (v_move rfl) (s_val rfl (v_len_slice Tryz.underlying44 rfl) (s_val rfl (v_move rfl) ?_))))
          refine s_val rfl (v_sub rfl rfl (by first | exact w64 (by omega) | rfl)) ?_
          refine s_val rfl (v_gtr rfl rfl) (s_val rfl (v_assign rfl) (x_nil (n_then ?_)))
          refine x_if rfl ?_ ?_
          · intro c5
            refine x_seq (x_region (s_val rfl (v_assign rfl) (s_val rfl (v_assign rfl) (x_nil (n_then (x_ret (r_block (r_then (x_done (.inl rfl) (.cons (r_tmp rfl) (.cons (r_tmp rfl) .nil)) ?_)))))))))
            exact ⟨_, ⟨rfl, rfl⟩, inferInstance⟩
          · intro c5
            exfalso; omega
  · intro g1_3
    refine s_no rfl rfl rfl rfl (s_val rfl (v_pick_f rfl rfl) (s_val rfl (v_move rfl) (s_no rfl rfl rfl rfl (s_no rfl rfl rfl rfl (s_val rfl (v_pick_f rfl rfl) (s_val rfl (v_assign rfl) (x_nil (n_then (x_iff rfl (x_seq (x_seq (x_region (s_val rfl (v_move rfl) (s_val rfl (v_lss rfl rfl) (s_val rfl (v_assign rfl) (x_nil (n_then ?_)))))))))))))))))
    refine x_if rfl ?_ ?_
    · intro c3
      refine x_skip (n_then (x_ift rfl (x_seq (x_region (s_val rfl (v_assign rfl) (s_val rfl (v_assign rfl) (x_nil (n_then (x_ret (r_block (r_then (x_done (.inl rfl) (.cons (r_tmp rfl) (.cons (r_tmp rfl) .nil)) ?_))))))))))))
      exact ⟨_, ⟨rfl, rfl⟩, inferInstance⟩
    · intro c3
      refine x_seq (x_region (s_val rfl (v_move rfl) (s_val rfl (v_move rfl) (s_val rfl (v_len_slice Tryz.underlying44 rfl) (s_val rfl (v_gtr rfl rfl) (s_val rfl (v_assign rfl) (x_nil (n_then ?_))))))))
      refine x_if rfl ?_ ?_
      · intro c4
        refine x_skip (n_then (x_ift rfl (x_seq (x_region (s_val rfl (v_assign rfl) (s_val rfl (v_assign rfl) (x_nil (n_then (x_ret (r_block (r_then (x_done (.inl rfl) (.cons (r_tmp rfl) (.cons (r_tmp rfl) .nil)) ?_))))))))))))
        exact ⟨_, ⟨rfl, rfl⟩, inferInstance⟩
      · intro c4
        refine x_region (s_val rfl (v_move rfl) (s_val rfl (v_move rfl) (s_val rfl (v_len_slice Tryz.underlying44 rfl) (s_val rfl (v_move rfl) ?_))))
        refine s_val rfl (v_sub rfl rfl (by first | exact w64 (by omega) | rfl)) ?_
        refine s_val rfl (v_gtr rfl rfl) (s_val rfl (v_assign rfl) (x_nil (n_then ?_)))
        refine x_if rfl ?_ ?_
        · intro c5
          refine x_seq (x_region (s_val rfl (v_assign rfl) (s_val rfl (v_assign rfl) (x_nil (n_then (x_ret (r_block (r_then (x_done (.inl rfl) (.cons (r_tmp rfl) (.cons (r_tmp rfl) .nil)) ?_)))))))))
          exact ⟨_, ⟨rfl, rfl⟩, inferInstance⟩
        · intro c5
          exfalso; omega
theorem gather_spec (W0 : World) (R : List HP) (g off c : Nat) (l : List Nat) (hc : Cells (OwnP W0 R) g off (byV l)) (hl : l.length ≤ 4) (hb : By l) :
    Spec Tryz.prog W0 129 [.slice (some ⟨g, off, none⟩) l.length c] R (fun v B => v = .int .u32 (leN l : Nat) ∧ B = R) := by
  refine spec_body Tryz.func129 Tryz.ntmps129 rfl rfl ?_
  refine x_seq (x_region (s_val rfl (v_assign rfl) (x_nil (n_then (x_seq (x_region (s_val rfl (v_assign rfl) (x_nil (n_then (x_seq (x_seq (x_region (s_val rfl (v_move rfl) (s_val rfl (v_len_slice Tryz.underlying44 rfl) (s_val rfl (v_move rfl) (x_nil (n_then (x_block ?_))))))))))))))))))
  refine x_loop (fun i : Nat => i ≤ l.length) (fun i => [(0, .slice (some ⟨g, off, none⟩) l.length c), (3, .int .u32 (leN (l.take i) : Nat)), (6, .int .i64 (l.length : Nat)), (7, .int .i64 i)]) (fun _ => R) (fun i => l.length - i) 0 ?_ ?_ ?_ ?_
  · exact Nat.zero_le _
  · repeat (first | exact sub_nil | refine sub_cons rfl ?_)
  · exact inferInstance
  · intro i hi
    refine x_seq (x_region (s_val rfl (v_lss rfl rfl) (x_nil (n_then (x_seq ?_)))))
    refine x_if rfl ?_ ?_
    · intro c3
      refine x_skip (n_then (x_seq (x_block (x_seq (x_region (s_val rfl (v_move rfl) (s_val rfl (v_assign rfl) (x_nil (n_then ?_)))))))))
      have hil : i < l.length := by omega
      have hbi := hb.get hil
      have hlt := leN_lt (hb.take i)
      rw [List.length_take, Nat.min_eq_left (by omega)] at hlt
      refine x_region (s_val rfl (v_move rfl) (s_val rfl (v_move rfl) (s_val rfl (v_move rfl) ?_)))
      refine s_val rfl (v_idx Tryz.underlying44 Tryz.sizeOf5 rfl rfl rfl hil (by first | exact Nat.zero_add _ | rfl)) ?_
      refine s_val rfl (v_load Tryz.isAgg5 rfl (by have := hc i (bV l[i]) (byV_get l i hil); rwa [Nat.mul_one])) ?_
      refine s_val rfl (v_conv Tryz.underlying5 Tryz.underlying31 rfl (w32u (by omega))) ?_
      refine s_val rfl (v_move rfl) ?_
      refine s_val rfl (v_mul rfl rfl (by rw [w64 (by omega)]; omega : IntKind.wrap .i64 (8 * (i : Int)) = ((8 * i : Nat) : Int))) ?_
      refine s_val rfl (v_shl rfl rfl (by omega) (shl_byte hbi (by omega))) ?_
      refine s_val rfl (v_or rfl rfl ((or_byte hlt hbi (by omega)).trans (congrArg _ (leN_take hil).symm))) ?_
      refine s_val rfl (v_assign rfl) (x_nil (n_block (n_then (x_region ?_))))
      refine s_val rfl (v_add rfl rfl (by first | exact w64 (by omega) | rfl)) ?_
      refine s_val rfl (v_move rfl) (x_nil (n_then ?_))
      refine inv_intro (i + 1) ?_ ?_ ?_ ?_
      · omega
      · omega
      · repeat (first | exact sub_nil | refine sub_cons rfl ?_)
      · exact inferInstance
    · intro c3
      refine x_exit (e_then (e_then (e_block (n_then (x_seq (x_region (s_val rfl (v_move rfl) (s_val rfl (v_assign rfl) (x_nil (n_then (x_ret (x_done (.inl rfl) (.cons (r_tmp rfl) .nil) ?_))))))))))))
      refine ⟨_, ⟨?_, rfl⟩, inferInstance⟩
      have : i = l.length := by omega
      subst this; simp [pack]
theorem Cells.part {S : World → Prop} {b off : Nat} {l : List Nat} (h : Cells S b off (byV l)) (i k : Nat) (hik : i + k ≤ l.length) : Cells S b (off + i) (byV ((l.drop i).take k)) := fun j v hv => by
  have hj : j < k := by
    rcases Nat.lt_or_ge j k with q | q
    · exact q
    · rw [List.getElem?_eq_none (by rw [byV_len, List.length_take]; omega)] at hv; cases hv
  have := h (i + j) v (by
    rw [byV, List.getElem?_map, List.getElem?_take_of_lt hj, List.getElem?_drop] at hv
    rw [byV, List.getElem?_map]; exact hv)
  rwa [← Nat.add_assoc] at this
def getN (l : List Nat) (at_ w : Int) : Nat := if inB l.length at_ w then leN ((l.drop at_.toNat).take w.toNat) else 0
def getE (l : List Nat) (at_ w : Int) : Int := if inB l.length at_ w then 0 else 1
theorem octGet_spec (W0 : World) (R : List HP) (g off c : Nat) (l : List Nat) (at_ w : Int) (hc : Cells (OwnP W0 R) g off (byV l)) (hb : By l) (hn : l.length ≤ c) (h63 : c < 9223372036854775808) :
    Spec Tryz.prog W0 87 [.slice (some ⟨g, off, none⟩) l.length c, .int .i64 at_, .int .i64 w] R (fun v B => v = .tuple #[.int .u32 (getN l at_ w : Nat), .int .i64 (getE l at_ w)] ∧ B = R) := by
  by_cases hi : inB l.length at_ w = true
  · obtain ⟨i, k, rfl, rfl, hk, hik⟩ := inB_nat hi
    have hw : winV g off l.length i k = .tuple #[.slice (some ⟨g, off + i, none⟩) ((l.drop i).take k).length k, .bool true] := by
      have : min k (l.length - i) = k := by omega
      simp [winV, hi, this]
    refine spec_body Tryz.func87 Tryz.ntmps87 rfl rfl ?_
    refine x_seq (x_region (s_val rfl (v_assign rfl) (s_val rfl (v_assign rfl) (x_nil (n_then (x_seq (x_region (s_val rfl (v_move rfl) (s_val rfl (v_move rfl) (s_val rfl (v_move rfl) (s_do rfl (d_call Tryz.call99 rfl (window_spec W0 _ g off l.length c i k hn h63)) ?_)))))))))))
    rintro _ B_ ⟨rfl, hB_⟩
    obtain rfl := hB_.symm
    rw [hw]
    refine s_val rfl (v_move rfl) (s_val rfl (v_extract rfl rfl) (s_val rfl (v_extract rfl rfl) (s_val rfl (v_assign rfl) (s_val rfl (v_assign rfl) (x_nil (n_then (x_seq (x_seq (x_region (s_val rfl (v_move rfl) (s_val rfl (v_not rfl) (x_nil (n_then ?_)))))))))))))
    refine x_if rfl ?_ ?_
    · intro c2
      exact absurd c2 (by simp)
    · intro c2
      refine x_skip (n_then (x_seq (x_region (s_val rfl (v_move rfl) ?_))))
      refine s_do rfl (d_call Tryz.call129 rfl (gather_spec W0 _ g (off + i) k ((l.drop i).take k) (hc.part i k hik) (by rw [List.length_take]; omega) ((hb.drop i).take k))) ?_
      rintro _ B_ ⟨rfl, hB_⟩
      obtain rfl := hB_.symm
      refine s_val rfl (v_assign rfl) (s_val rfl (v_assign rfl) (x_nil (n_then (x_ret (x_done (.inl rfl) (.cons (r_tmp rfl) (.cons (r_tmp rfl) .nil)) ?_)))))
      refine ⟨_, ⟨?_, rfl⟩, inferInstance⟩
      simp [pack, getN, getE, hi]
  · have hi' : inB l.length at_ w = false := by simpa using hi
    have hw : winV g off l.length at_ w = .tuple #[.slice none 0 0, .bool false] := by simp [winV, hi']
    refine spec_body Tryz.func87 Tryz.ntmps87 rfl rfl ?_
    refine x_seq (x_region (s_val rfl (v_assign rfl) (s_val rfl (v_assign rfl) (x_nil (n_then (x_seq (x_region (s_val rfl (v_move rfl) (s_val rfl (v_move rfl) (s_val rfl (v_move rfl) (s_do rfl (d_call Tryz.call99 rfl (window_spec W0 _ g off l.length c at_ w hn h63)) ?_)))))))))))
    rintro _ B_ ⟨rfl, hB_⟩
    obtain rfl := hB_.symm
    rw [hw]
    refine s_val rfl (v_move rfl) (s_val rfl (v_extract rfl rfl) (s_val rfl (v_extract rfl rfl) (s_val rfl (v_assign rfl) (s_val rfl (v_assign rfl) (x_nil (n_then (x_seq (x_seq (x_region (s_val rfl (v_move rfl) (s_val rfl (v_not rfl) (x_nil (n_then ?_)))))))))))))
    refine x_if rfl ?_ ?_
    · intro c2
      refine x_seq (x_region (s_val rfl (v_assign rfl) (s_val rfl (v_assign rfl) (x_nil (n_then (x_ret (r_then (x_done (.inl rfl) (.cons (r_tmp rfl) (.cons (r_tmp rfl) .nil)) ?_))))))))
      refine ⟨_, ⟨?_, rfl⟩, inferInstance⟩
      simp [pack, getN, getE, hi']
    · intro c2
      exact absurd c2 (by simp)
theorem spread_spec (W0 : World) (R : List HP) (g off n c ty : Nat) (L : List Value) (w : Nat) (hw : w < 4294967296) (hn : n ≤ 4) (hL : off + n ≤ L.length) :
    Spec Tryz.prog W0 100 [.slice (some ⟨g, off, none⟩) n c, .int .u32 w] (pt g (cob L ty) :: R) (fun v B => v = .tuple #[] ∧ B = pt g (cob (setR L off (byV (leB n w))) ty) :: R) := by
  refine spec_body Tryz.func100 Tryz.ntmps100 rfl rfl ?_
  refine x_seq (x_region (s_val rfl (v_move rfl) (s_val rfl (v_len_slice Tryz.underlying44 rfl) (s_val rfl (v_move rfl) (x_nil (n_then (x_block ?_)))))))
  refine x_loop (fun i : Nat => i ≤ n) (fun i => [(0, .slice (some ⟨g, off, none⟩) n c), (1, .int .u32 w), (6, .int .i64 n), (7, .int .i64 i)]) (fun i => pt g (cob (setR L off (byV (leB i w))) ty) :: R) (fun i => n - i) 0 ?_ ?_ ?_ ?_
  · exact Nat.zero_le _
  · repeat (first | exact sub_nil | refine sub_cons rfl ?_)
  · rw [show setR L off (byV (leB 0 w)) = L from rfl]; exact inferInstance
  · intro i hi
    refine x_seq (x_region (s_val rfl (v_lss rfl rfl) (x_nil (n_then (x_seq ?_)))))
    refine x_if rfl ?_ ?_
    · intro c1
      refine x_skip (n_then (x_seq (x_block (x_seq (x_region (s_val rfl (v_move rfl) (s_val rfl (v_assign rfl) (x_nil (n_then (x_region (s_val rfl (v_move rfl) (s_val rfl (v_move rfl) (s_val rfl (v_move rfl) (s_val rfl (v_move rfl) ?_))))))))))))))
      refine s_val rfl (v_mul rfl rfl (by rw [w64 (by omega)]; omega : IntKind.wrap .i64 (8 * (i : Int)) = ((8 * i : Nat) : Int))) ?_
      refine s_val rfl (v_shr rfl rfl (by omega) rfl) ?_
      refine s_val rfl (v_conv Tryz.underlying31 Tryz.underlying5 rfl (byte_of (by omega))) ?_
      refine s_val rfl (v_idx Tryz.underlying44 Tryz.sizeOf5 rfl rfl rfl (by omega) (by first | exact Nat.zero_add _ | rfl)) ?_
      refine s_do0 (d_store Tryz.sizeOf5 rfl rfl rfl (by rw [setR_length]; omega) (by rw [leB_succ, byV_append, show byV [w / 256 ^ i % 256] = [bV (w / 256 ^ i % 256)] from rfl, setR_snoc, byV_len, leB_len, Nat.mul_one]; rfl : (setR L off (byV (leB i w))).set (off + i * 1) _ = setR L off (byV (leB (i + 1) w)))) ?_
      rintro _ _ rfl
      refine x_nil (n_block (n_then (x_region ?_)))
      refine s_val rfl (v_add rfl rfl (by first | exact w64 (by omega) | rfl)) ?_
      refine s_val rfl (v_move rfl) (x_nil (n_then ?_))
      refine inv_intro (i + 1) ?_ ?_ ?_ ?_
      · omega
      · omega
      · repeat (first | exact sub_nil | refine sub_cons rfl ?_)
      · exact inferInstance
    · intro c1
      refine x_exit (e_then (e_then (e_block (x_done (.inr rfl) .nil ?_))))
      have : i = n := by omega
      subst this
      exact ⟨_, ⟨rfl, rfl⟩, inferInstance⟩
theorem clone_spec (W0 : World) (R : List HP) (g off c : Nat) (l : List Nat) (hc : Cells (OwnP W0 R) g off (byV l)) (hn : l.length ≤ 1000000) :
    Spec Tryz.prog W0 98 [.slice (some ⟨g, off, none⟩) l.length c] R (fun v B => ∃ a' c', v = .slice a' l.length c' ∧ B = osl 5 1 (.slice a' l.length c') (byV l) :: R) := by
  refine spec_body Tryz.func98 Tryz.ntmps98 rfl rfl ?_
  refine x_seq (x_region (s_val rfl (v_assign rfl) (x_nil (n_then (x_seq (x_seq (x_region (s_val rfl (v_move rfl) (s_val rfl (v_eql_slice_nil Tryz.underlying44 rfl rfl) (x_nil (n_then ?_)))))))))))
  refine x_if rfl ?_ ?_
  · intro c1
    cases c1
  · intro c1
    refine x_skip (n_then (x_seq (x_region (s_do rfl (d_slice0 Tryz.underlying44 Tryz.sizeOf5 rfl) ?_))))
    rintro _ _ ⟨b1, rfl, rfl⟩
    refine s_val rfl (v_move rfl) ?_
    refine s_do rfl (d_append (sz := 1) (by_ := 1) (info := Tryz.t5) Tryz.underlying44 (by kernel_rfl) rfl rfl rfl rfl (by decide) rfl rfl hc.weak ((byV_len l).trans (Nat.mul_one _).symm) (byV_one l) (by simp only [maxLen]; omega) (by omega)) ?_
    rintro _ _ ⟨a1, c1, rfl, rfl⟩
    refine s_val rfl (v_assign rfl) (x_nil (n_then (x_ret (x_done (.inl rfl) (.cons (r_tmp rfl) .nil) ?_))))
    exact ⟨_, ⟨a1, c1, by simp [pack], rfl⟩, by simpa using (ent_refl : Ent _ _)⟩
theorem refIn_spec (W0 : World) (R : List HP) (a : Option Addr) (n c : Nat) (at_ w : Int) (hn : n < 9223372036854775808) :
    Spec Tryz.prog W0 101 [.slice a n c, .int .i64 at_, .int .i64 w] R (fun v B => v = .bool (inB n at_ w) ∧ B = R) := by
  refine spec_body Tryz.func101 Tryz.ntmps101 rfl rfl ?_
  refine x_seq (x_region (s_val rfl (v_assign rfl) (x_nil (n_then (x_seq (x_seq (x_region (s_val rfl (v_move rfl) (s_val rfl (v_neq rfl rfl) (s_val rfl (v_move rfl) ?_))))))))))
  refine s_and rfl rfl rfl ?_ ?_
  · intro g1_3
    refine s_val rfl (v_move rfl) (s_yes rfl rfl (s_val rfl (v_neq rfl rfl) (s_val rfl (v_pick_t rfl rfl) (s_val rfl (v_move rfl) ?_))))
    refine s_and rfl rfl rfl ?_ ?_
    · intro g1_7
      refine s_val rfl (v_move rfl) (s_yes rfl rfl (s_val rfl (v_neq rfl rfl) (s_val rfl (v_pick_t rfl rfl) (x_nil (n_then ?_)))))
      refine x_if rfl ?_ ?_
      · intro c1
        refine x_seq (x_region (s_val rfl (v_assign rfl) (x_nil (n_then (x_ret (r_then (x_done (.inl rfl) (.cons (r_tmp rfl) .nil) ?_)))))))
        refine ⟨_, ⟨?_, rfl⟩, inferInstance⟩
        have hi : inB n at_ w = false := by
          rw [← Bool.not_eq_true, inB_iff]; omega
        simp [pack, hi]
      · intro c1
        refine x_skip (n_then (x_seq (x_region (s_val rfl (v_move rfl) (s_val rfl (v_geq rfl rfl) (s_val rfl (v_move rfl) ?_))))))
        refine s_and rfl rfl rfl ?_ ?_
        · intro g3_3
          refine s_val rfl (v_move rfl) (s_yes rfl rfl (s_val rfl (v_move rfl) (s_yes rfl rfl (s_val rfl (v_len_slice Tryz.underlying44 rfl) (s_yes rfl rfl (s_val rfl (v_leq rfl rfl) (s_val rfl (v_pick_t rfl rfl) (s_val rfl (v_move rfl) ?_))))))))
          refine s_and rfl rfl rfl ?_ ?_
          · intro g3_9
            refine s_val rfl (v_move rfl) (s_yes rfl rfl (s_val rfl (v_len_slice Tryz.underlying44 rfl) (s_yes rfl rfl (s_val rfl (v_move rfl) (s_yes rfl rfl ?_)))))
            refine s_val rfl (v_sub rfl rfl (w64 (by omega))) ?_
            refine s_yes rfl rfl (s_val rfl (v_move rfl) (s_yes rfl rfl (s_val rfl (v_geq rfl rfl) (s_val rfl (v_pick_t rfl rfl) (s_val rfl (v_assign rfl) (x_nil (n_then (x_ret (x_done (.inl rfl) (.cons (r_tmp rfl) .nil) ?_)))))))))
            refine ⟨_, ⟨?_, rfl⟩, inferInstance⟩
            refine congrArg Value.bool ?_
            rw [Bool.eq_iff_iff, inB_iff]; simp only [Bool.false_eq_true, false_iff, decide_eq_true_eq]; omega
          · intro g3_9
            refine s_no rfl rfl rfl rfl (s_no rfl rfl rfl rfl (s_no rfl rfl rfl rfl (s_no rfl rfl rfl rfl (s_no rfl rfl rfl rfl (s_val rfl (v_pick_f rfl rfl) (s_val rfl (v_assign rfl) (x_nil (n_then (x_ret (x_done (.inl rfl) (.cons (r_tmp rfl) .nil) ?_))))))))))
            refine ⟨_, ⟨?_, rfl⟩, inferInstance⟩
            refine congrArg Value.bool ?_
            rw [Bool.eq_iff_iff, inB_iff]; simp only [Bool.false_eq_true, false_iff, decide_eq_true_eq]; omega
        · intro g3_3
          refine s_no rfl rfl rfl rfl (s_no rfl rfl rfl rfl (s_no rfl rfl rfl rfl (s_val rfl (v_pick_f rfl rfl) (s_val rfl (v_move rfl) (s_no rfl rfl rfl rfl (s_no rfl rfl rfl rfl (s_no rfl rfl rfl rfl (s_no rfl rfl rfl rfl (s_no rfl rfl rfl rfl (s_no rfl rfl rfl rfl (s_val rfl (v_pick_f rfl rfl) (s_val rfl (v_assign rfl) (x_nil (n_then (x_ret (x_done (.inl rfl) (.cons (r_tmp rfl) .nil) ?_))))))))))))))))
          refine ⟨_, ⟨?_, rfl⟩, inferInstance⟩
          refine congrArg Value.bool ?_
          rw [Bool.eq_iff_iff, inB_iff]; simp only [Bool.false_eq_true, false_iff, decide_eq_true_eq]; omega
    · intro g1_7
      refine s_no rfl rfl rfl rfl (s_val rfl (v_pick_f rfl rfl) (x_nil (n_then (x_iff rfl (x_skip (n_then (x_seq (x_region (s_val rfl (v_move rfl) (s_val rfl (v_geq rfl rfl) (s_val rfl (v_move rfl) ?_)))))))))))
      refine s_and rfl rfl rfl ?_ ?_
      · intro g3_3
        refine s_val rfl (v_move rfl) (s_yes rfl rfl (s_val rfl (v_move rfl) (s_yes rfl rfl (s_val rfl (v_len_slice Tryz.underlying44 rfl) (s_yes rfl rfl (s_val rfl (v_leq rfl rfl) (s_val rfl (v_pick_t rfl rfl) (s_val rfl (v_move rfl) ?_))))))))
        refine s_and rfl rfl rfl ?_ ?_
        · intro g3_9
          refine s_val rfl (v_move rfl) (s_yes rfl rfl (s_val rfl (v_len_slice Tryz.underlying44 rfl) (s_yes rfl rfl (s_val rfl (v_move rfl) (s_yes rfl rfl ?_)))))
          refine s_val rfl (v_sub rfl rfl (w64 (by omega))) ?_
          refine s_yes rfl rfl (s_val rfl (v_move rfl) (s_yes rfl rfl (s_val rfl (v_geq rfl rfl) (s_val rfl (v_pick_t rfl rfl) (s_val rfl (v_assign rfl) (x_nil (n_then (x_ret (x_done (.inl rfl) (.cons (r_tmp rfl) .nil) ?_)))))))))
          refine ⟨_, ⟨?_, rfl⟩, inferInstance⟩
          refine congrArg Value.bool ?_
          rw [Bool.eq_iff_iff, inB_iff]; simp only [Bool.false_eq_true, false_iff, decide_eq_true_eq]; omega
        · intro g3_9
          refine s_no rfl rfl rfl rfl (s_no rfl rfl rfl rfl (s_no rfl rfl rfl rfl (s_no rfl rfl rfl rfl (s_no rfl rfl rfl rfl (s_val rfl (v_pick_f rfl rfl) (s_val rfl (v_assign rfl) (x_nil (n_then (x_ret (x_done (.inl rfl) (.cons (r_tmp rfl) .nil) ?_))))))))))
          refine ⟨_, ⟨?_, rfl⟩, inferInstance⟩
          refine congrArg Value.bool ?_
          rw [Bool.eq_iff_iff, inB_iff]; simp only [Bool.false_eq_true, false_iff, decide_eq_true_eq]; omega
      · intro g3_3
        refine s_no rfl rfl rfl rfl (s_no rfl rfl rfl rfl (s_no rfl rfl rfl rfl (s_val rfl (v_pick_f rfl rfl) (s_val rfl (v_move rfl) (s_no rfl rfl rfl rfl (s_no rfl rfl rfl rfl (s_no rfl rfl rfl rfl (s_no rfl rfl rfl rfl (s_no rfl rfl rfl rfl (s_no rfl rfl rfl rfl (s_val rfl (v_pick_f rfl rfl) (s_val rfl (v_assign rfl) (x_nil (n_then (x_ret (x_done (.inl rfl) (.cons (r_tmp rfl) .nil) ?_))))))))))))))))
        refine ⟨_, ⟨?_, rfl⟩, inferInstance⟩
        refine congrArg Value.bool ?_
        rw [Bool.eq_iff_iff, inB_iff]; simp only [Bool.false_eq_true, false_iff, decide_eq_true_eq]; omega
  · intro g1_3
    refine s_no rfl rfl rfl rfl (s_val rfl (v_pick_f rfl rfl) (s_val rfl (v_move rfl) (s_no rfl rfl rfl rfl (s_no rfl rfl rfl rfl (s_val rfl (v_pick_f rfl rfl) (x_nil (n_then (x_iff rfl (x_skip (n_then (x_seq (x_region (s_val rfl (v_move rfl) (s_val rfl (v_geq rfl rfl) (s_val rfl (v_move rfl) ?_)))))))))))))))
    refine s_and rfl rfl rfl ?_ ?_
    · intro g3_3
      refine s_val rfl (v_move rfl) (s_yes rfl rfl (s_val rfl (v_move rfl) (s_yes rfl rfl (s_val rfl (v_len_slice Tryz.underlying44 rfl) (s_yes rfl rfl (s_val rfl (v_leq rfl rfl) (s_val rfl (v_pick_t rfl rfl) (s_val rfl (v_move rfl) ?_))))))))
      refine s_and rfl rfl rfl ?_ ?_
      · intro g3_9
        refine s_val rfl (v_move rfl) (s_yes rfl rfl (s_val rfl (v_len_slice Tryz.underlying44 rfl) (s_yes rfl rfl (s_val rfl (v_move rfl) (s_yes rfl rfl ?_)))))
        refine s_val rfl (v_sub rfl rfl (w64 (by omega))) ?_
        refine s_yes rfl rfl (s_val rfl (v_move rfl) (s_yes rfl rfl (s_val rfl (v_geq rfl rfl) (s_val rfl (v_pick_t rfl rfl) (s_val rfl (v_assign rfl) (x_nil (n_then (x_ret (x_done (.inl rfl) (.cons (r_tmp rfl) .nil) ?_)))))))))
        refine ⟨_, ⟨?_, rfl⟩, inferInstance⟩
        refine congrArg Value.bool ?_
        rw [Bool.eq_iff_iff, inB_iff]; simp only [Bool.false_eq_true, false_iff, decide_eq_true_eq]; omega
      · intro g3_9
        refine s_no rfl rfl rfl rfl (s_no rfl rfl rfl rfl (s_no rfl rfl rfl rfl (s_no rfl rfl rfl rfl (s_no rfl rfl rfl rfl (s_val rfl (v_pick_f rfl rfl) (s_val rfl (v_assign rfl) (x_nil (n_then (x_ret (x_done (.inl rfl) (.cons (r_tmp rfl) .nil) ?_))))))))))
        refine ⟨_, ⟨?_, rfl⟩, inferInstance⟩
        refine congrArg Value.bool ?_
        rw [Bool.eq_iff_iff, inB_iff]; simp only [Bool.false_eq_true, false_iff, decide_eq_true_eq]; omega
    · intro g3_3
      refine s_no rfl rfl rfl rfl (s_no rfl rfl rfl rfl (s_no rfl rfl rfl rfl (s_val rfl (v_pick_f rfl rfl) (s_val rfl (v_move rfl) (s_no rfl rfl rfl rfl (s_no rfl rfl rfl rfl (s_no rfl rfl rfl rfl (s_no rfl rfl rfl rfl (s_no rfl rfl rfl rfl (s_no rfl rfl rfl rfl (s_val rfl (v_pick_f rfl rfl) (s_val rfl (v_assign rfl) (x_nil (n_then (x_ret (x_done (.inl rfl) (.cons (r_tmp rfl) .nil) ?_))))))))))))))))
      refine ⟨_, ⟨?_, rfl⟩, inferInstance⟩
      refine congrArg Value.bool ?_
      rw [Bool.eq_iff_iff, inB_iff]; simp only [Bool.false_eq_true, false_iff, decide_eq_true_eq]; omega
theorem refGet02_spec (W0 : World) (R : List HP) (g off c : Nat) (l : List Nat) (at_ w : Int) (hc : Cells (OwnP W0 R) g off (byV l)) (hb : By l) (hn : l.length ≤ c) (h63 : c < 9223372036854775808) :
    Spec Tryz.prog W0 88 [.slice (some ⟨g, off, none⟩) l.length c, .int .i64 at_, .int .i64 w] R (fun v B => v = .tuple #[.int .u32 (getN l at_ w : Nat), .int .i64 (getE l at_ w)] ∧ B = R) := by
  by_cases hi : inB l.length at_ w = true
  · obtain ⟨i0, k, rfl, rfl, hk, hik⟩ := inB_nat hi
    have hlen : ((l.drop i0).take k).length = k := by simp; omega
    have hb' := (hb.drop i0).take k
    have hc' := hc.part i0 k hik
    have hget : getN l i0 k = leN ((l.drop i0).take k) := by simp [getN, hi]
    generalize (l.drop i0).take k = m at hlen hb' hc' hget
    refine spec_body Tryz.func88 Tryz.ntmps88 rfl rfl ?_
    refine x_seq (x_region (s_val rfl (v_assign rfl) (s_val rfl (v_assign rfl) (x_nil (n_then (x_seq (x_seq (x_region (s_val rfl (v_move rfl) (s_val rfl (v_move rfl) (s_val rfl (v_move rfl) ?_)))))))))))
    refine s_do rfl (d_call Tryz.call101 rfl (refIn_spec W0 _ _ l.length c i0 k (by omega))) ?_
    rintro _ B_ ⟨rfl, hB_⟩
    obtain rfl := hB_.symm
    refine s_val rfl (v_not rfl) (x_nil (n_then ?_))
    refine x_if rfl ?_ ?_
    · intro c1
      exact absurd c1 (by simp [hi])
    · intro c1
      refine x_skip (n_then (x_seq (x_region (s_val rfl (v_assign rfl) (x_nil (n_then (x_seq (x_seq (x_region (s_val rfl (v_assign rfl) (x_nil (n_then (x_block ?_)))))))))))))
      refine x_loop (fun i : Nat => i ≤ k) (fun i => [(0, .slice (some ⟨g, off, none⟩) l.length c), (1, .int .i64 i0), (2, .int .i64 k), (8, .int .u32 (leN (m.take i) : Nat)), (9, .int .i64 i)]) (fun _ => R) (fun i => k - i) 0 ?_ ?_ ?_ ?_
      · exact Nat.zero_le _
      · repeat (first | exact sub_nil | refine sub_cons rfl ?_)
      · exact inferInstance
      · intro i hik2
        refine x_seq (x_seq (x_region (s_val rfl (v_move rfl) (s_val rfl (v_move rfl) (s_val rfl (v_lss rfl rfl) (x_nil (n_then ?_)))))))
        refine x_if rfl ?_ ?_
        · intro c5
          refine x_skip (n_then (x_seq (x_block ?_)))
          have hil : i < m.length := by omega
          have hbi := hb'.get hil
          have hlt := leN_lt (hb'.take i)
          rw [List.length_take, Nat.min_eq_left (by omega)] at hlt
          refine x_region (s_val rfl (v_move rfl) (s_val rfl (v_move rfl) (s_val rfl (v_move rfl) (s_val rfl (v_move rfl) ?_))))
          refine s_val rfl (v_add rfl rfl (by rw [w64 (by omega)]; omega : IntKind.wrap .i64 ((i0 : Int) + (i : Int)) = ((i0 + i : Nat) : Int))) ?_
          refine s_val rfl (v_idx Tryz.underlying44 Tryz.sizeOf5 rfl rfl rfl (by omega) (by first | exact Nat.zero_add _ | rfl)) ?_
          refine s_val rfl (v_load Tryz.isAgg5 rfl (by have := hc' i (bV m[i]) (byV_get m i hil); rwa [Nat.mul_one, ← Nat.add_assoc])) ?_
          refine s_val rfl (v_conv Tryz.underlying5 Tryz.underlying31 rfl (w32u (by omega))) ?_
          refine s_val rfl (v_move rfl) ?_
          refine s_val rfl (v_mul rfl rfl (by rw [w64 (by omega)]; omega : IntKind.wrap .i64 (8 * (i : Int)) = ((8 * i : Nat) : Int))) ?_
          refine s_val rfl (v_shl rfl rfl (by omega) (shl_byte hbi (by omega))) ?_
          refine s_val rfl (v_add rfl rfl ((add_byte hlt hbi (by omega)).trans (congrArg _ (leN_take hil).symm))) ?_
          refine s_val rfl (v_assign rfl) (x_nil (n_block (n_then (x_region (s_val rfl (v_move rfl) ?_)))))
          refine s_val rfl (v_add rfl rfl (by first | exact w64 (by omega) | rfl)) ?_
          refine s_val rfl (v_assign rfl) (x_nil (n_then ?_))
          refine inv_intro (i + 1) ?_ ?_ ?_ ?_
          · omega
          · omega
          · repeat (first | exact sub_nil | refine sub_cons rfl ?_)
          · exact inferInstance
        · intro c5
          refine x_exit (e_then (e_then (e_block (n_then (x_seq (x_region (s_val rfl (v_move rfl) (s_val rfl (v_assign rfl) (s_val rfl (v_assign rfl) (x_nil (n_then (x_ret (x_done (.inl rfl) (.cons (r_tmp rfl) (.cons (r_tmp rfl) .nil)) ?_)))))))))))))
          refine ⟨_, ⟨?_, rfl⟩, inferInstance⟩
          have : i = m.length := by omega
          subst this; simp [pack, hget, getE, hi]
  · have hi' : inB l.length at_ w = false := by simpa using hi
    refine spec_body Tryz.func88 Tryz.ntmps88 rfl rfl ?_
    refine x_seq (x_region (s_val rfl (v_assign rfl) (s_val rfl (v_assign rfl) (x_nil (n_then (x_seq (x_seq (x_region (s_val rfl (v_move rfl) (s_val rfl (v_move rfl) (s_val rfl (v_move rfl) ?_)))))))))))
    refine s_do rfl (d_call Tryz.call101 rfl (refIn_spec W0 _ _ l.length c at_ w (by omega))) ?_
    rintro _ B_ ⟨rfl, hB_⟩
    obtain rfl := hB_.symm
    refine s_val rfl (v_not rfl) (x_nil (n_then ?_))
    refine x_if rfl ?_ ?_
    · intro c1
      refine x_seq (x_region (s_val rfl (v_assign rfl) (s_val rfl (v_assign rfl) (x_nil (n_then (x_ret (r_then (x_done (.inl rfl) (.cons (r_tmp rfl) (.cons (r_tmp rfl) .nil)) ?_))))))))
      refine ⟨_, ⟨?_, rfl⟩, inferInstance⟩
      simp [pack, getN, getE, hi']
    · intro c1
      exact absurd c1 (by simp [hi'])
end Go.Proofs.YtllkdnadmmjehaaGreatDoor
namespace Go.Proofs.YtllkdnadmmjehaaGreatDoor
open Go.RowKit
set_option linter.unusedSimpArgs false
set_option linter.unusedVariables false
set_option maxRecDepth 20000
theorem maxLen_lt {c : Nat} (h : c ≤ maxLen) : c < 9223372036854775808 := by simp only [maxLen] at h; omega
theorem put_cells {l : List Nat} {sp : List Value} {i k w : Nat} (h : i + k ≤ l.length) : setR (byV l ++ sp) i (byV (leB k w)) = byV (putB l i k w) ++ sp := by
  rw [setR_front _ _ _ _ (by rw [byV_len, byV_len, leB_len]; exact h), setR_byV h]
def putV (a : Option Addr) (n c : Nat) : Value := .tuple #[.slice a n c, .int .i64 0]
def putNo : Value := .tuple #[.slice none 0 0, .int .i64 1]
theorem octPut_ok (W0 : World) (R : List HP) (g off c : Nat) (l : List Nat) (i k w : Nat) (hw : w < 4294967296) (hc : Cells (OwnP W0 R) g off (byV l)) (hi : inB l.length i k = true) (hn : l.length ≤ 1000000) :
    Spec Tryz.prog W0 63 [.slice (some ⟨g, off, none⟩) l.length c, .int .i64 i, .int .i64 k, .int .u32 w] R (fun v B => ∃ a' c', v = putV a' l.length c' ∧ B = osl 5 1 (.slice a' l.length c') (byV (putB l i k w)) :: R) := by
  have hb := inB_iff.1 hi
  refine spec_body Tryz.func63 Tryz.ntmps63 rfl rfl ?_
  refine x_seq (x_region (s_val rfl (v_assign rfl) (s_val rfl (v_assign rfl) (x_nil (n_then (x_seq (x_region (s_val rfl (v_move rfl) (s_do rfl (d_call Tryz.call98 rfl (clone_spec W0 _ g off c l hc hn)) ?_)))))))))
  rintro _ B_ ⟨a', c', rfl, hB_⟩
  obtain rfl := hB_.symm
  refine s_val rfl (v_assign rfl) (x_nil (n_then (x_seq ?_)))
  refine run_osl (fun h _ => by have := (Value.slice.inj h).2.1; omega) fun g' n' cap sp h1 h2 h3 h4 h5 => ?_
  cases h1
  have hwv : winV g' 0 l.length i k = .tuple #[.slice (some ⟨g', i, none⟩) k k, .bool true] := by simp [winV, hi]
  refine x_region (s_val rfl (v_move rfl) (s_val rfl (v_move rfl) (s_val rfl (v_move rfl) (s_do rfl (d_call Tryz.call99 rfl (window_spec W0 _ g' 0 l.length c' i k h2 (maxLen_lt h3))) ?_))))
  rintro _ B_ ⟨rfl, hB_⟩
  obtain rfl := hB_.symm
  rw [hwv]
  refine s_val rfl (v_move rfl) (s_val rfl (v_extract rfl rfl) (s_val rfl (v_extract rfl rfl) (s_val rfl (v_assign rfl) (s_val rfl (v_assign rfl) (x_nil (n_then (x_seq (x_seq (x_region (s_val rfl (v_move rfl) (s_val rfl (v_not rfl) (x_nil (n_then ?_)))))))))))))
  refine x_if rfl ?_ ?_
  · intro c3
    exact absurd c3 (by simp)
  · intro c3
    refine x_skip (n_then (x_seq (x_region (s_val rfl (v_move rfl) (s_val rfl (v_move rfl) ?_)))))
    refine s_do rfl (d_call1 Tryz.call100 rfl (spread_spec W0 _ g' i k k 5 (byV l ++ sp) w hw (by omega) (by rw [List.length_append, byV_len]; omega))) ?_
    rintro _ B_ ⟨rfl, hB_⟩
    obtain rfl := hB_.symm
    rw [put_cells (by omega)]
    refine x_nil (n_then (x_seq (x_region (s_val rfl (v_move rfl) (s_val rfl (v_assign rfl) (s_val rfl (v_assign rfl) (x_nil (n_then (x_ret (x_done (.inl rfl) (.cons (r_tmp rfl) (.cons (r_tmp rfl) .nil)) ?_))))))))))
    exact ⟨_, ⟨_, c', rfl, rfl⟩, ent_osl h2 h3 (by rw [byV_len, putB_len (by omega), Nat.mul_one]) (by rw [← h5, List.length_append, List.length_append, byV_len, byV_len, putB_len (by omega)])⟩
theorem octPut_no (W0 : World) (R : List HP) (g off c : Nat) (l : List Nat) (at_ k : Int) (w : Nat) (hc : Cells (OwnP W0 R) g off (byV l)) (hi : inB l.length at_ k = false) (hn : l.length ≤ 1000000) :
    Spec Tryz.prog W0 63 [.slice (some ⟨g, off, none⟩) l.length c, .int .i64 at_, .int .i64 k, .int .u32 w] R (fun v B => v = putNo ∧ B = R) := by
  refine spec_body Tryz.func63 Tryz.ntmps63 rfl rfl ?_
  refine x_seq (x_region (s_val rfl (v_assign rfl) (s_val rfl (v_assign rfl) (x_nil (n_then (x_seq (x_region (s_val rfl (v_move rfl) (s_do rfl (d_call Tryz.call98 rfl (clone_spec W0 _ g off c l hc hn)) ?_)))))))))
  rintro _ B_ ⟨a', c', rfl, hB_⟩
  obtain rfl := hB_.symm
  refine s_val rfl (v_assign rfl) (x_nil (n_then (x_seq ?_)))
  obtain ⟨R', hR'⟩ : ∃ R', R' = osl 5 1 (.slice a' l.length c') (byV l) :: R := ⟨_, rfl⟩
  refine x_region (s_val rfl (v_move rfl) (s_val rfl (v_move rfl) (s_val rfl (v_move rfl) ?_)))
  refine s_do rfl (d_call Tryz.call99 rfl (windowN_spec W0 _ a' l.length c' at_ k hi (by omega))) ?_
  rintro _ B_ ⟨rfl, hB_⟩
  obtain rfl := hB_.symm
  refine s_val rfl (v_move rfl) (s_val rfl (v_extract rfl rfl) (s_val rfl (v_extract rfl rfl) (s_val rfl (v_assign rfl) (s_val rfl (v_assign rfl) (x_nil (n_then (x_seq (x_seq (x_region (s_val rfl (v_move rfl) (s_val rfl (v_not rfl) (x_nil (n_then ?_)))))))))))))
  refine x_if rfl ?_ ?_
  · intro c3
    refine x_seq (x_region (s_val rfl (v_assign rfl) (s_val rfl (v_assign rfl) (x_nil (n_then (x_ret (r_then (x_done (.inl rfl) (.cons (r_tmp rfl) (.cons (r_tmp rfl) .nil)) ?_))))))))
    exact ⟨_, ⟨rfl, rfl⟩, inferInstance⟩
  · intro c3
    exact absurd c3 (by simp)
theorem refPut_ok (W0 : World) (R : List HP) (g off c : Nat) (l : List Nat) (i0 k w : Nat) (hw : w < 4294967296) (hc : Cells (OwnP W0 R) g off (byV l)) (hi : inB l.length i0 k = true) (hn : l.length ≤ 1000000) :
    Spec Tryz.prog W0 65 [.slice (some ⟨g, off, none⟩) l.length c, .int .i64 i0, .int .i64 k, .int .u32 w] R (fun v B => ∃ a' c', v = putV a' l.length c' ∧ B = osl 5 1 (.slice a' l.length c') (byV (putB l i0 k w)) :: R) := by
  have hb := inB_iff.1 hi
  refine spec_body Tryz.func65 Tryz.ntmps65 rfl rfl ?_
  refine x_seq (x_region (s_val rfl (v_assign rfl) (s_val rfl (v_assign rfl) (x_nil (n_then (x_seq (x_seq (x_region (s_val rfl (v_move rfl) (s_val rfl (v_move rfl) (s_val rfl (v_move rfl) ?_)))))))))))
  refine s_do rfl (d_call Tryz.call101 rfl (refIn_spec W0 _ _ l.length c i0 k (by omega))) ?_
  rintro _ B_ ⟨rfl, hB_⟩
  obtain rfl := hB_.symm
  refine s_val rfl (v_not rfl) (x_nil (n_then ?_))
  refine x_if rfl ?_ ?_
  · intro c1
    exact absurd c1 (by simp [hi])
  · intro c1
    refine x_skip (n_then (x_seq (x_region (s_do rfl (d_slice0 Tryz.underlying44 Tryz.sizeOf5 rfl) ?_))))
    rintro _ _ ⟨b1, rfl, rfl⟩
    refine s_val rfl (v_move rfl) ?_
    refine s_do rfl (d_append (sz := 1) (by_ := 1) (info := Tryz.t5) Tryz.underlying44 (by kernel_rfl) rfl rfl rfl rfl (by decide) rfl rfl hc.weak ((byV_len l).trans (Nat.mul_one _).symm) (byV_one l) (by simp only [maxLen]; omega) (by omega)) ?_
    rintro _ B_ ⟨a', c', rfl, hB_⟩
    obtain rfl := hB_.symm
    simp only [Nat.zero_add, List.nil_append]
    refine s_val rfl (v_assign rfl) (x_nil (n_then (x_seq (x_seq ?_))))
    refine run_osl (fun h _ => by have := (Value.slice.inj h).2.1; omega) fun g' n' cap sp h1 h2 h3 h4 h5 => ?_
    cases h1
    refine x_region (s_val rfl (v_assign rfl) (x_nil (n_then (x_block ?_))))
    refine x_loop (fun i : Nat => i ≤ k) (fun i => [(1, .int .i64 i0), (2, .int .i64 k), (3, .int .u32 w), (10, .slice (some ⟨g', 0, none⟩) l.length c'), (11, .int .i64 i)]) (fun i => pt g' (cob (setR (byV l ++ sp) i0 (byV (leB i w))) 5) :: R) (fun i => k - i) 0 ?_ ?_ ?_ ?_
    · exact Nat.zero_le _
    · repeat (first | exact sub_nil | refine sub_cons rfl ?_)
    · rw [show setR (byV l ++ sp) i0 (byV (leB 0 w)) = byV l ++ sp from rfl]; exact inferInstance
    · intro i hik
      refine x_seq (x_seq (x_region (s_val rfl (v_move rfl) (s_val rfl (v_move rfl) (s_val rfl (v_lss rfl rfl) (x_nil (n_then ?_)))))))
      refine x_if rfl ?_ ?_
      · intro c5
        refine x_skip (n_then (x_seq (x_block (x_region (s_val rfl (v_move rfl) (s_val rfl (v_move rfl) (s_val rfl (v_move rfl) ?_)))))))
        refine s_val rfl (v_add rfl rfl (by rw [w64 (by omega)]; omega : IntKind.wrap .i64 ((i0 : Int) + (i : Int)) = ((i0 + i : Nat) : Int))) ?_
        refine s_val rfl (v_move rfl) (s_val rfl (v_move rfl) ?_)
        refine s_val rfl (v_mul rfl rfl (by rw [w64 (by omega)]; omega : IntKind.wrap .i64 (8 * (i : Int)) = ((8 * i : Nat) : Int))) ?_
        refine s_val rfl (v_shr rfl rfl (by omega) rfl) ?_
        refine s_val rfl (v_conv Tryz.underlying31 Tryz.underlying5 rfl (byte_of (by omega))) ?_
        refine s_val rfl (v_idx Tryz.underlying44 Tryz.sizeOf5 rfl rfl rfl (by omega) (by first | exact Nat.zero_add _ | rfl)) ?_
        refine s_do0 (d_store Tryz.sizeOf5 rfl rfl rfl (by rw [setR_length, List.length_append, byV_len]; omega) (by rw [leB_succ, byV_append, show byV [w / 256 ^ i % 256] = [bV (w / 256 ^ i % 256)] from rfl, setR_snoc, byV_len, leB_len, Nat.mul_one]; rfl : (setR (byV l ++ sp) i0 (byV (leB i w))).set ((i0 + i) * 1) _ = setR (byV l ++ sp) i0 (byV (leB (i + 1) w)))) ?_
        rintro _ _ rfl
        refine x_nil (n_block (n_then (x_region (s_val rfl (v_move rfl) ?_))))
        refine s_val rfl (v_add rfl rfl (by first | exact w64 (by omega) | rfl)) ?_
        refine s_val rfl (v_assign rfl) (x_nil (n_then ?_))
        refine inv_intro (i + 1) ?_ ?_ ?_ ?_
        · omega
        · omega
        · repeat (first | exact sub_nil | refine sub_cons rfl ?_)
        · exact inferInstance
      · intro c5
        refine x_exit (e_then (e_then (e_block (n_then (x_seq (x_region (s_val rfl (v_move rfl) (s_val rfl (v_assign rfl) (s_val rfl (v_assign rfl) (x_nil (n_then (x_ret (x_done (.inl rfl) (.cons (r_tmp rfl) (.cons (r_tmp rfl) .nil)) ?_)))))))))))))
        have : i = k := by omega
        subst this
        rw [put_cells (by omega)]
        exact ⟨_, ⟨_, c', rfl, rfl⟩, ent_osl h2 h3 (by rw [byV_len, putB_len (by omega), Nat.mul_one]) (by rw [← h5, List.length_append, List.length_append, byV_len, byV_len, putB_len (by omega)])⟩
theorem refPut_no (W0 : World) (R : List HP) (a : Option Addr) (n c : Nat) (at_ k : Int) (w : Nat) (hi : inB n at_ k = false) (hn : n ≤ 1000000) :
    Spec Tryz.prog W0 65 [.slice a n c, .int .i64 at_, .int .i64 k, .int .u32 w] R (fun v B => v = putNo ∧ B = R) := by
  refine spec_body Tryz.func65 Tryz.ntmps65 rfl rfl ?_
  refine x_seq (x_region (s_val rfl (v_assign rfl) (s_val rfl (v_assign rfl) (x_nil (n_then (x_seq (x_seq (x_region (s_val rfl (v_move rfl) (s_val rfl (v_move rfl) (s_val rfl (v_move rfl) ?_)))))))))))
  refine s_do rfl (d_call Tryz.call101 rfl (refIn_spec W0 _ _ n c at_ k (by omega))) ?_
  rintro _ B_ ⟨rfl, hB_⟩
  obtain rfl := hB_.symm
  refine s_val rfl (v_not rfl) (x_nil (n_then ?_))
  refine x_if rfl ?_ ?_
  · intro c1
    refine x_seq (x_region (s_val rfl (v_assign rfl) (s_val rfl (v_assign rfl) (x_nil (n_then (x_ret (r_then (x_done (.inl rfl) (.cons (r_tmp rfl) (.cons (r_tmp rfl) .nil)) ?_))))))))
    exact ⟨_, ⟨rfl, rfl⟩, inferInstance⟩
  · intro c1
    exact absurd c1 (by simp [hi])
end Go.Proofs.YtllkdnadmmjehaaGreatDoor
namespace Go.Proofs.YtllkdnadmmjehaaGreatDoor
open Go.RowKit
set_option linter.unusedSimpArgs false
set_option linter.unusedVariables false
set_option maxRecDepth 20000
abbrev Frm := List Nat
def frV (x : Frm) : List Value := (List.range 64).map (fun i => bV (x.getD i 0))
theorem frV_len (x : Frm) : (frV x).length = 64 := by simp [frV]
theorem frV_eq {x : Frm} (h : x.length = 64) : frV x = byV x := by
  apply List.ext_getElem
  · simp [frV, byV, h]
  · intro i h1 h2
    have : i < x.length := by simpa [byV] using h2
    simp [frV, byV, List.getD, this]
def Frs (fr : List Frm) : Prop := ∀ x ∈ fr, x.length = 64 ∧ By x
theorem Frs.get {fr : List Frm} (h : Frs fr) {f : Nat} (hf : f < fr.length) : (fr.getD f []).length = 64 ∧ By (fr.getD f []) := by
  have : fr.getD f [] = fr[f] := by simp [List.getD, hf]
  rw [this]; exact h _ (List.getElem_mem hf)
theorem Frs.set {fr : List Frm} (h : Frs fr) {f : Nat} {y : Frm} (hy : y.length = 64 ∧ By y) : Frs (fr.set f y) := fun x hx => by
  rcases List.mem_or_eq_of_mem_set hx with h' | rfl
  · exact h x h'
  · exact hy
theorem fr_row {fr : List Frm} (h : Frs fr) {f : Nat} (hf : f < fr.length) : ((fr.flatMap frV).drop (f * 64)).take 64 = byV (fr.getD f []) := by
  have := flat_row frV_len fr f [] hf
  rw [List.append_nil] at this
  rw [this, frV_eq (h _ (List.getElem_mem hf)).1]; simp [List.getD, hf]
theorem fr_set {fr : List Frm} {f : Nat} {y : Frm} (hf : f < fr.length) (hy : y.length = 64) : setR (fr.flatMap frV) (f * 64) (byV y) = (fr.set f y).flatMap frV := by
  have := flat_set frV_len fr f y [] hf
  rw [List.append_nil, List.append_nil, frV_eq hy] at this
  exact this
theorem fr_len (fr : List Frm) : (fr.flatMap frV).length = fr.length * 64 := flat_len frV_len fr
def zeros : Frm := List.replicate 64 0
theorem zeros_ok : zeros.length = 64 ∧ By zeros := ⟨by simp [zeros], fun b hb => by have := List.eq_of_mem_replicate hb; omega⟩
theorem Frs.new (n : Nat) : Frs (List.replicate n zeros) := fun x hx => by rw [List.eq_of_mem_replicate hx]; exact zeros_ok
theorem fr_new : ∀ n, (List.replicate n zeros).flatMap frV = List.replicate (n * 64) (bV 0)
  | 0 => rfl
  | n + 1 => by
    rw [List.replicate_succ, List.flatMap_cons, fr_new n, Nat.succ_mul, Nat.add_comm, ← List.replicate_append_replicate]
    congr 1
def stoH (ps : Nat) (fr : List Frm) : HP := chk (fun C => ∃ g, C = [pt ps (cob [.slice (some ⟨g, 0, none⟩) fr.length fr.length, .bool true] 107), pt g (cob (fr.flatMap frV) 104)])
section
variable {P : Program} {W0 : World} {N : FSz} {K : Act → World → Prop} {e : Env} {A B R R1 R2 : List HP} {ps g n : Nat} {fr : List Frm} {f : FuncId} {args : List Value} {Post : Value → List HP → Prop} {l : List Value}
theorem spec_sto (h : ∀ g, Spec P W0 f args (pt ps (cob [.slice (some ⟨g, 0, none⟩) fr.length fr.length, .bool true] 107) :: pt g (cob (fr.flatMap frV) 104) :: R) Post) : Spec P W0 f args (stoH ps fr :: R) Post :=
  spec_chk fun C hC => by obtain ⟨g, rfl⟩ := hC; exact h g
theorem ent_sto [h1 : Tk pt ps A (cob [.slice (some ⟨g, 0, none⟩) n n, .bool true] 107) R1] [h2 : Tk pt g R1 (cob l 104) R2] (hl : l = fr.flatMap frV) (hn : n = fr.length) [k : Ent R2 B] : Ent A (stoH ps fr :: B) := by
  subst hl; subst hn
  exact (Ent.ofPerm (h1.perm.trans (h2.perm.cons _))).trans ((Ent.cons (Ent.cons k)).trans (ent_chk (R := B) (C := [_, _]) ⟨g, rfl⟩))
theorem run_sto [hk : Tk stoH ps A fr R] (h : ∀ g, Run W0 N K e (pt ps (cob [.slice (some ⟨g, 0, none⟩) fr.length fr.length, .bool true] 107) :: pt g (cob (fr.flatMap frV) 104) :: R)) : Run W0 N K e A :=
  run_tk (r := stoH) (b := ps) (run_chk fun C hC => by obtain ⟨g, rfl⟩ := hC; exact h g)
end
theorem octGetN {W0 : World} {R : List HP} {g off c n : Nat} {l : List Nat} {at_ w : Int} (hl : l.length = n) (hc : Cells (OwnP W0 R) g off (byV l)) (hb : By l) (hn : n ≤ c) (h63 : c < 9223372036854775808) :
    Spec Tryz.prog W0 87 [.slice (some ⟨g, off, none⟩) n c, .int .i64 at_, .int .i64 w] R (fun v B => v = .tuple #[.int .u32 (getN l at_ w : Nat), .int .i64 (getE l at_ w)] ∧ B = R) := by
  subst hl; exact octGet_spec W0 R g off c l at_ w hc hb hn h63
theorem octPutN_ok {W0 : World} {R : List HP} {g off c n : Nat} {l : List Nat} {i k w : Nat} (hl : l.length = n) (hw : w < 4294967296) (hc : Cells (OwnP W0 R) g off (byV l)) (hi : inB n i k = true) (hn : n ≤ 1000000) :
    Spec Tryz.prog W0 63 [.slice (some ⟨g, off, none⟩) n c, .int .i64 i, .int .i64 k, .int .u32 w] R (fun v B => ∃ a' c', v = putV a' n c' ∧ B = osl 5 1 (.slice a' n c') (byV (putB l i k w)) :: R) := by
  subst hl; exact octPut_ok W0 R g off c l i k w hw hc hi hn
theorem octPutN_no {W0 : World} {R : List HP} {g off c n : Nat} {l : List Nat} {at_ k : Int} {w : Nat} (hl : l.length = n) (hc : Cells (OwnP W0 R) g off (byV l)) (hi : inB n at_ k = false) (hn : n ≤ 1000000) :
    Spec Tryz.prog W0 63 [.slice (some ⟨g, off, none⟩) n c, .int .i64 at_, .int .i64 k, .int .u32 w] R (fun v B => v = putNo ∧ B = R) := by
  subst hl; exact octPut_no W0 R g off c l at_ k w hc hi hn
theorem frNew_spec (W0 : World) (R : List HP) (n : Nat) (h : n ≤ 32) :
    Spec Tryz.prog W0 21 [.int .i64 n] R (fun v B => ∃ b, v = .tuple #[.pointer (some ⟨b, 0, none⟩), .int .i64 0] ∧ B = stoH b (List.replicate n zeros) :: R) := by
  refine spec_body Tryz.func21 Tryz.ntmps21 rfl rfl ?_
  refine x_seq (x_region (s_val rfl (v_assign rfl) (s_val rfl (v_assign rfl) (x_nil (n_then (x_seq (x_seq (x_region (s_val rfl (v_move rfl) (s_val rfl (v_lss rfl rfl) (s_val rfl (v_move rfl) ?_)))))))))))
  refine s_or rfl rfl rfl ?_ ?_
  · intro g1_3
    omega
  · intro g1_3
    refine s_val rfl (v_move rfl) (s_yes rfl rfl (s_val rfl (v_gtr rfl rfl) (s_val rfl (v_pick_f rfl rfl) (x_nil (n_then ?_)))))
    refine x_if rfl ?_ ?_
    · intro c1
      omega
    · intro c1
      refine x_skip (n_then (x_seq (x_region (s_val rfl (v_move rfl) ?_))))
      refine s_do rfl (d_make (sz := 64) (by_ := 64) (info := Tryz.t104) Tryz.underlying105 (by kernel_rfl) rfl rfl rfl rfl (by decide) rfl rfl rfl rfl (by omega) (by decide)) ?_
      rintro _ _ ⟨b1, rfl, rfl⟩
      refine s_val rfl (v_build Tryz.underlying107 Tryz.zeroValue107 (sized_cons Tryz.sizeOf105 (sized_cons Tryz.sizeOf4 sized_nil)) (fil_scal rfl Tryz.sizeOf105 rfl rfl (Nat.le_of_ble_eq_true rfl) SetL.eq (fil_scal rfl Tryz.sizeOf4 rfl rfl (Nat.le_of_ble_eq_true rfl) SetL.eq fil_nil))) ?_
      refine s_do rfl (d_boxA rfl) ?_
      rintro _ _ ⟨b2, rfl, rfl⟩
      refine s_val rfl (v_assign rfl) (s_val rfl (v_assign rfl) (x_nil (n_then (x_ret (x_done (.inl rfl) (.cons (r_tmp rfl) (.cons (r_tmp rfl) .nil)) ?_)))))
      exact ⟨_, ⟨b2, rfl, rfl⟩, ent_sto (fr_new n).symm (by simp)⟩
theorem frNone_spec (W0 : World) (R : List HP) (ps : Nat) (fr : List Frm) :
    Spec Tryz.prog W0 66 [.pointer (some ⟨ps, 0, none⟩)] (stoH ps fr :: R) (fun v B => v = .bool false ∧ B = stoH ps fr :: R) := by
  refine spec_sto fun g => ?_
  refine spec_body Tryz.func66 Tryz.ntmps66 rfl rfl ?_
  refine x_seq (x_region (s_val rfl (v_assign rfl) (x_nil (n_then (x_seq (x_region (s_val rfl (v_move rfl) (s_val rfl (v_eql_ptr_nil Tryz.underlying47 rfl rfl) (s_val rfl (v_move rfl) ?_)))))))))
  refine s_or rfl rfl rfl ?_ ?_
  · intro g1_3
    cases g1_3
  · intro g1_3
    refine s_val rfl (v_move rfl) (s_yes rfl rfl (s_val rfl (v_nilCheck rfl) (s_yes rfl rfl ?_)))
    refine s_val rfl (v_fieldAddr rfl Tryz.underlying107 rfl Tryz.sizeOf4 rfl (by first | exact Nat.zero_add _ | rfl)) ?_
    refine s_yes rfl rfl (s_val rfl (v_load Tryz.isAgg4 rfl (cell_own rfl)) ?_)
    refine s_yes rfl rfl (s_val rfl (v_not rfl) (s_val rfl (v_pick_f rfl rfl) (s_val rfl (v_assign rfl) (x_nil (n_then (x_ret (x_done (.inl rfl) (.cons (r_tmp rfl) .nil) ?_)))))))
    exact ⟨_, ⟨by simp [pack], rfl⟩, ent_sto rfl rfl⟩
theorem frLen_spec (W0 : World) (R : List HP) (ps : Nat) (fr : List Frm) :
    Spec Tryz.prog W0 59 [.pointer (some ⟨ps, 0, none⟩)] (stoH ps fr :: R) (fun v B => v = .int .i64 (fr.length : Nat) ∧ B = stoH ps fr :: R) := by
  refine spec_body Tryz.func59 Tryz.ntmps59 rfl rfl ?_
  refine x_seq (x_region (s_val rfl (v_assign rfl) (x_nil (n_then (x_seq (x_seq (x_region (s_val rfl (v_move rfl) (s_do rfl (d_call1 Tryz.call66 rfl (frNone_spec W0 _ ps fr)) ?_)))))))))
  rintro _ B_ ⟨rfl, hB_⟩
  obtain rfl := hB_.symm
  refine x_nil (n_then ?_)
  refine x_if rfl ?_ ?_
  · intro c1
    exact absurd c1 (by decide)
  · intro c1
    refine x_skip (n_then (x_seq ?_))
    refine run_sto (ps := ps) fun g => ?_
    refine x_region (s_val rfl (v_move rfl) (s_val rfl (v_nilCheck rfl) ?_))
    refine s_val rfl (v_fieldAddr rfl Tryz.underlying107 rfl Tryz.sizeOf105 rfl (by first | exact Nat.zero_add _ | rfl)) ?_
    refine s_val rfl (v_load Tryz.isAgg105 rfl (cell_own rfl)) ?_
    refine s_val rfl (v_len_slice Tryz.underlying105 rfl) (s_val rfl (v_assign rfl) (x_nil (n_then (x_ret (x_done (.inl rfl) (.cons (r_tmp rfl) .nil) ?_)))))
    exact ⟨_, ⟨rfl, rfl⟩, ent_sto rfl rfl⟩
def isF (n : Nat) (f : Int) : Bool := decide (0 ≤ f ∧ f < n)
theorem frMay_spec (W0 : World) (R : List HP) (ps : Nat) (fr : List Frm) (f : Int) :
    Spec Tryz.prog W0 36 [.pointer (some ⟨ps, 0, none⟩), .int .i64 f] (stoH ps fr :: R) (fun v B => v = .int .i64 (if isF fr.length f then 0 else 1) ∧ B = stoH ps fr :: R) := by
  refine spec_body Tryz.func36 Tryz.ntmps36 rfl rfl ?_
  refine x_seq (x_region (s_val rfl (v_assign rfl) (x_nil (n_then (x_seq (x_block (x_seq (x_region (s_val rfl (v_move rfl) (s_do rfl (d_call1 Tryz.call66 rfl (frNone_spec W0 _ ps fr)) ?_))))))))))
  rintro _ B_ ⟨rfl, hB_⟩
  obtain rfl := hB_.symm
  refine s_val rfl (v_assign rfl) (x_nil (n_then ?_))
  refine x_if rfl ?_ ?_
  · intro c1
    exact absurd c1 (by decide)
  · intro c1
    refine x_seq (x_seq (x_region (s_val rfl (v_move rfl) (s_val rfl (v_lss rfl rfl) (s_val rfl (v_assign rfl) (x_nil (n_then ?_)))))))
    refine x_if rfl ?_ ?_
    · intro c3
      refine x_skip (n_then (x_ift rfl (x_seq (x_region (s_val rfl (v_assign rfl) (x_nil (n_then (x_ret (r_block (r_then (x_done (.inl rfl) (.cons (r_tmp rfl) .nil) ?_)))))))))))
      have hf : isF fr.length f = false := by rw [← Bool.not_eq_true]; simp only [isF, decide_eq_true_eq]; omega
      first
        | exact ⟨_, ⟨by simp [pack, hf], rfl⟩, ent_sto rfl rfl⟩
        | exact ⟨_, ⟨by simp [pack, hf], rfl⟩, inferInstance⟩
    · intro c3
      refine run_sto (ps := ps) fun g => ?_
      refine x_region (s_val rfl (v_move rfl) (s_val rfl (v_move rfl) (s_val rfl (v_nilCheck rfl) ?_)))
      refine s_val rfl (v_fieldAddr rfl Tryz.underlying107 rfl Tryz.sizeOf105 rfl (by first | exact Nat.zero_add _ | rfl)) ?_
      refine s_val rfl (v_load Tryz.isAgg105 rfl (cell_own rfl)) ?_
      refine s_val rfl (v_len_slice Tryz.underlying105 rfl) (s_val rfl (v_geq rfl rfl) (s_val rfl (v_assign rfl) (x_nil (n_then ?_))))
      refine x_if rfl ?_ ?_
      · intro c4
        refine x_seq (x_region (s_val rfl (v_assign rfl) (x_nil (n_then (x_ret (r_block (r_then (x_done (.inl rfl) (.cons (r_tmp rfl) .nil) ?_))))))))
        have hf : isF fr.length f = false := by rw [← Bool.not_eq_true]; simp only [isF, decide_eq_true_eq]; omega
        first
          | exact ⟨_, ⟨by simp [pack, hf], rfl⟩, ent_sto rfl rfl⟩
          | exact ⟨_, ⟨by simp [pack, hf], rfl⟩, inferInstance⟩
      · intro c4
        refine x_skip (n_block (n_then (x_seq (x_region (s_val rfl (v_assign rfl) (x_nil (n_then (x_ret (x_done (.inl rfl) (.cons (r_tmp rfl) .nil) ?_)))))))))
        have hf : isF fr.length f = true := by simp only [isF, decide_eq_true_eq]; omega
        exact ⟨_, ⟨by simp [pack, hf], rfl⟩, ent_sto rfl rfl⟩
def ldN (fr : List Frm) (f off w : Int) : Nat := if isF fr.length f then getN (fr.getD f.toNat []) off w else 0
def ldE (fr : List Frm) (f off w : Int) : Int := if isF fr.length f then getE (fr.getD f.toNat []) off w else 1
theorem isF_nat {n : Nat} {f : Int} (h : isF n f = true) : ∃ i : Nat, f = (i : Int) ∧ i < n := by
  simp only [isF, decide_eq_true_eq] at h
  exact ⟨f.toNat, by omega, by omega⟩
theorem frLoad_spec (W0 : World) (R : List HP) (ps : Nat) (fr : List Frm) (f off w : Int) (hF : Frs fr) :
    Spec Tryz.prog W0 49 [.pointer (some ⟨ps, 0, none⟩), .int .i64 f, .int .i64 off, .int .i64 w] (stoH ps fr :: R)
      (fun v B => v = .tuple #[.int .u32 (ldN fr f off w : Nat), .int .i64 (ldE fr f off w)] ∧ B = stoH ps fr :: R) := by
  by_cases hf : isF fr.length f = true
  · obtain ⟨i, rfl, hi⟩ := isF_nat hf
    obtain ⟨hl, hb⟩ := hF.get hi
    refine spec_body Tryz.func49 Tryz.ntmps49 rfl rfl ?_
    refine x_seq (x_region (s_val rfl (v_assign rfl) (s_val rfl (v_assign rfl) (x_nil (n_then (x_seq (x_seq (x_region (s_val rfl (v_move rfl) (s_val rfl (v_move rfl) (s_do rfl (d_call1 Tryz.call36 rfl (frMay_spec W0 _ ps fr i)) ?_)))))))))))
    rintro _ B_ ⟨rfl, hB_⟩
    obtain rfl := hB_.symm
    refine s_val rfl (v_assign rfl) (x_nil (n_then (x_seq (x_region (s_val rfl (v_move rfl) (s_val rfl (v_neq rfl rfl) (x_nil (n_then ?_))))))))
    refine x_if rfl ?_ ?_
    · intro c2
      exact absurd c2 (by simp [hf])
    · intro c2
      refine x_skip (n_then (x_seq ?_))
      refine run_sto (ps := ps) fun g => ?_
      refine x_region (s_val rfl (v_move rfl) (s_val rfl (v_nilCheck rfl) ?_))
      refine s_val rfl (v_fieldAddr rfl Tryz.underlying107 rfl Tryz.sizeOf105 rfl (by first | exact Nat.zero_add _ | rfl)) ?_
      refine s_val rfl (v_load Tryz.isAgg105 rfl (cell_own rfl)) ?_
      refine s_val rfl (v_move rfl) ?_
      refine s_val rfl (v_idx Tryz.underlying105 Tryz.sizeOf104 rfl rfl rfl hi (by first | exact Nat.zero_add _ | rfl)) ?_
      refine s_val rfl (v_sliceArr Tryz.underlying104 Tryz.sizeOf5 rfl) ?_
      refine s_val rfl (v_move rfl) (s_val rfl (v_move rfl) ?_)
      refine s_do rfl (d_call Tryz.call87 rfl (octGetN hl (cells_part (fr_row hF hi) (by rw [byV_len, hl])) hb (by decide) (by decide))) ?_
      rintro _ B_ ⟨rfl, hB_⟩
      obtain rfl := hB_.symm
      refine s_val rfl (v_extract rfl rfl) (s_val rfl (v_extract rfl rfl) (s_val rfl (v_assign rfl) (s_val rfl (v_assign rfl) (x_nil (n_then (x_ret (x_done (.inl rfl) (.cons (r_tmp rfl) (.cons (r_tmp rfl) .nil)) ?_)))))))
      exact ⟨_, ⟨by simp [pack, ldN, ldE, hf], rfl⟩, ent_sto rfl rfl⟩
  · have hf' : isF fr.length f = false := by simpa using hf
    refine spec_body Tryz.func49 Tryz.ntmps49 rfl rfl ?_
    refine x_seq (x_region (s_val rfl (v_assign rfl) (s_val rfl (v_assign rfl) (x_nil (n_then (x_seq (x_seq (x_region (s_val rfl (v_move rfl) (s_val rfl (v_move rfl) (s_do rfl (d_call1 Tryz.call36 rfl (frMay_spec W0 _ ps fr f)) ?_)))))))))))
    rintro _ B_ ⟨rfl, hB_⟩
    obtain rfl := hB_.symm
    refine s_val rfl (v_assign rfl) (x_nil (n_then (x_seq (x_region (s_val rfl (v_move rfl) (s_val rfl (v_neq rfl rfl) (x_nil (n_then ?_))))))))
    refine x_if rfl ?_ ?_
    · intro c2
      refine x_seq (x_region (s_val rfl (v_move rfl) (s_val rfl (v_assign rfl) (s_val rfl (v_assign rfl) (x_nil (n_then (x_ret (r_then (x_done (.inl rfl) (.cons (r_tmp rfl) (.cons (r_tmp rfl) .nil)) ?_)))))))))
      exact ⟨_, ⟨by simp [pack, ldN, ldE, hf'], rfl⟩, inferInstance⟩
    · intro c2
      exact absurd c2 (by simp [hf'])
def svOk (fr : List Frm) (f off w : Int) : Bool := isF fr.length f && inB 64 off w
def svF (fr : List Frm) (f off w : Int) (v : Nat) : List Frm := if svOk fr f off w then fr.set f.toNat (putB (fr.getD f.toNat []) off.toNat w.toNat v) else fr
theorem svF_ok {fr : List Frm} {f off w : Int} {v : Nat} (h : Frs fr) : Frs (svF fr f off w v) := by
  unfold svF; split
  · rename_i hs
    simp only [svOk, Bool.and_eq_true] at hs
    obtain ⟨i, rfl, hi⟩ := isF_nat hs.1
    obtain ⟨o, k, rfl, rfl, hk, hok⟩ := inB_nat hs.2
    obtain ⟨hl, hb⟩ := h.get hi
    exact h.set ⟨by rw [putB_len (by simp only [Int.toNat_natCast]; omega)]; exact hl, putB_by hb⟩
  · exact h
theorem svF_len {fr : List Frm} {f off w : Int} {v : Nat} : (svF fr f off w v).length = fr.length := by unfold svF; split <;> simp
theorem frSave_spec (W0 : World) (R : List HP) (ps : Nat) (fr : List Frm) (f off w : Int) (x : Nat) (hx : x < 4294967296) (hF : Frs fr) :
    Spec Tryz.prog W0 33 [.pointer (some ⟨ps, 0, none⟩), .int .i64 f, .int .i64 off, .int .i64 w, .int .u32 x] (stoH ps fr :: R)
      (fun v B => v = .int .i64 (if svOk fr f off w then 0 else 1) ∧ B = stoH ps (svF fr f off w x) :: R) := by
  by_cases hf : isF fr.length f = true
  · obtain ⟨i, rfl, hi⟩ := isF_nat hf
    obtain ⟨hl, hb⟩ := hF.get hi
    by_cases hin : inB 64 off w = true
    · obtain ⟨o, k, rfl, rfl, hk, hok⟩ := inB_nat hin
      have hs : svOk fr i o k = true := by simp [svOk, hf, hin]
      have hpl : (putB (fr.getD i []) o k x).length = 64 := by rw [putB_len (by omega)]; exact hl
      refine spec_body Tryz.func33 Tryz.ntmps33 rfl rfl ?_
      refine x_seq (x_region (s_val rfl (v_assign rfl) (x_nil (n_then (x_seq (x_seq (x_region (s_val rfl (v_move rfl) (s_val rfl (v_move rfl) (s_do rfl (d_call1 Tryz.call36 rfl (frMay_spec W0 _ ps fr i)) ?_))))))))))
      rintro _ B_ ⟨rfl, hB_⟩
      obtain rfl := hB_.symm
      refine s_val rfl (v_assign rfl) (x_nil (n_then (x_seq (x_region (s_val rfl (v_move rfl) (s_val rfl (v_neq rfl rfl) (x_nil (n_then ?_))))))))
      refine x_if rfl ?_ ?_
      · intro c2
        exact absurd c2 (by simp [hf])
      · intro c2
        refine x_skip (n_then (x_seq ?_))
        refine run_sto (ps := ps) fun g => ?_
        refine x_region (s_val rfl (v_move rfl) (s_val rfl (v_nilCheck rfl) ?_))
        refine s_val rfl (v_fieldAddr rfl Tryz.underlying107 rfl Tryz.sizeOf105 rfl (by first | exact Nat.zero_add _ | rfl)) ?_
        refine s_val rfl (v_load Tryz.isAgg105 rfl (cell_own rfl)) ?_
        refine s_val rfl (v_move rfl) ?_
        refine s_val rfl (v_idx Tryz.underlying105 Tryz.sizeOf104 rfl rfl rfl hi (by first | exact Nat.zero_add _ | rfl)) ?_
        refine s_val rfl (v_sliceArr Tryz.underlying104 Tryz.sizeOf5 rfl) ?_
        refine s_val rfl (v_move rfl) (s_val rfl (v_move rfl) (s_val rfl (v_move rfl) ?_))
        refine s_do rfl (d_call Tryz.call63 rfl (octPutN_ok hl hx (cells_part (fr_row hF hi) (by rw [byV_len, hl])) hin (by decide))) ?_
        rintro _ B_ ⟨a', c', rfl, hB_⟩
        obtain rfl := hB_.symm
        refine s_val rfl (v_move rfl) (s_val rfl (v_extract rfl rfl) (s_val rfl (v_extract rfl rfl) (s_val rfl (v_assign rfl) (s_val rfl (v_assign rfl) (x_nil (n_then (x_seq (x_seq (x_region (s_val rfl (v_move rfl) (s_val rfl (v_neq rfl rfl) (x_nil (n_then ?_)))))))))))))
        refine x_if rfl ?_ ?_
        · intro c5
          exact absurd c5 (by simp)
        · intro c5
          refine x_skip (n_then (x_seq ?_))
          refine run_osl (fun h _ => by have := (Value.slice.inj h).2.1; omega) fun g' n' cap sp h1 h2 h3 h4 h5 => ?_
          cases h1
          refine x_region (s_val rfl (v_move rfl) (s_val rfl (v_nilCheck rfl) ?_))
          refine s_val rfl (v_fieldAddr rfl Tryz.underlying107 rfl Tryz.sizeOf105 rfl (by first | exact Nat.zero_add _ | rfl)) ?_
          refine s_val rfl (v_load Tryz.isAgg105 rfl (cell_own rfl)) ?_
          refine s_val rfl (v_move rfl) ?_
          refine s_val rfl (v_idx Tryz.underlying105 Tryz.sizeOf104 rfl rfl rfl hi (by first | exact Nat.zero_add _ | rfl)) ?_
          refine s_val rfl (v_sliceArr Tryz.underlying104 Tryz.sizeOf5 rfl) ?_
          refine s_val rfl (v_move rfl) ?_
          refine s_do rfl (d_copy Tryz.underlying44 Tryz.sizeOf5 rfl rfl (m := 64) (vs := byV (putB (fr.getD i []) o k x)) rfl (cells_part (n := 64) (by rw [List.drop_zero, List.take_left' (by rw [byV_len, hpl])]) (by rw [byV_len, hpl])) (by rw [byV_len, hpl]) (byV_one _) (by rw [fr_len]; omega) (fr_set hi hpl)) ?_
          rintro _ B_ ⟨rfl, hB_⟩
          obtain rfl := hB_.symm
          refine x_nil (n_then (x_seq (x_region (s_val rfl (v_assign rfl) (x_nil (n_then (x_ret (x_done (.inl rfl) (.cons (r_tmp rfl) .nil) ?_))))))))
          exact ⟨_, ⟨by simp [pack, hs], rfl⟩, ent_sto (by simp [svF, hs]) (by simp [svF, hs])⟩
    · have hin' : inB 64 off w = false := by simpa using hin
      have hs : svOk fr i off w = false := by simp [svOk, hin']
      refine spec_body Tryz.func33 Tryz.ntmps33 rfl rfl ?_
      refine x_seq (x_region (s_val rfl (v_assign rfl) (x_nil (n_then (x_seq (x_seq (x_region (s_val rfl (v_move rfl) (s_val rfl (v_move rfl) (s_do rfl (d_call1 Tryz.call36 rfl (frMay_spec W0 _ ps fr i)) ?_))))))))))
      rintro _ B_ ⟨rfl, hB_⟩
      obtain rfl := hB_.symm
      refine s_val rfl (v_assign rfl) (x_nil (n_then (x_seq (x_region (s_val rfl (v_move rfl) (s_val rfl (v_neq rfl rfl) (x_nil (n_then ?_))))))))
      refine x_if rfl ?_ ?_
      · intro c2
        exact absurd c2 (by simp [hf])
      · intro c2
        refine x_skip (n_then (x_seq ?_))
        refine run_sto (ps := ps) fun g => ?_
        refine x_region (s_val rfl (v_move rfl) (s_val rfl (v_nilCheck rfl) ?_))
        refine s_val rfl (v_fieldAddr rfl Tryz.underlying107 rfl Tryz.sizeOf105 rfl (by first | exact Nat.zero_add _ | rfl)) ?_
        refine s_val rfl (v_load Tryz.isAgg105 rfl (cell_own rfl)) ?_
        refine s_val rfl (v_move rfl) ?_
        refine s_val rfl (v_idx Tryz.underlying105 Tryz.sizeOf104 rfl rfl rfl hi (by first | exact Nat.zero_add _ | rfl)) ?_
        refine s_val rfl (v_sliceArr Tryz.underlying104 Tryz.sizeOf5 rfl) ?_
        refine s_val rfl (v_move rfl) (s_val rfl (v_move rfl) (s_val rfl (v_move rfl) ?_))
        refine s_do rfl (d_call Tryz.call63 rfl (octPutN_no hl (cells_part (fr_row hF hi) (by rw [byV_len, hl])) hin' (by decide))) ?_
        rintro _ B_ ⟨rfl, hB_⟩
        obtain rfl := hB_.symm
        refine s_val rfl (v_move rfl) (s_val rfl (v_extract rfl rfl) (s_val rfl (v_extract rfl rfl) (s_val rfl (v_assign rfl) (s_val rfl (v_assign rfl) (x_nil (n_then (x_seq (x_seq (x_region (s_val rfl (v_move rfl) (s_val rfl (v_neq rfl rfl) (x_nil (n_then ?_)))))))))))))
        refine x_if rfl ?_ ?_
        · intro c5
          refine x_seq (x_region (s_val rfl (v_move rfl) (s_val rfl (v_assign rfl) (x_nil (n_then (x_ret (r_then (x_done (.inl rfl) (.cons (r_tmp rfl) .nil) ?_))))))))
          exact ⟨_, ⟨by simp [pack, hs], rfl⟩, ent_sto (by simp [svF, hs]) (by simp [svF, hs])⟩
        · intro c5
          exact absurd c5 (by simp)
  · have hf' : isF fr.length f = false := by simpa using hf
    have hs : svOk fr f off w = false := by simp [svOk, hf']
    refine spec_body Tryz.func33 Tryz.ntmps33 rfl rfl ?_
    refine x_seq (x_region (s_val rfl (v_assign rfl) (x_nil (n_then (x_seq (x_seq (x_region (s_val rfl (v_move rfl) (s_val rfl (v_move rfl) (s_do rfl (d_call1 Tryz.call36 rfl (frMay_spec W0 _ ps fr f)) ?_))))))))))
    rintro _ B_ ⟨rfl, hB_⟩
    obtain rfl := hB_.symm
    refine s_val rfl (v_assign rfl) (x_nil (n_then (x_seq (x_region (s_val rfl (v_move rfl) (s_val rfl (v_neq rfl rfl) (x_nil (n_then ?_))))))))
    refine x_if rfl ?_ ?_
    · intro c2
      refine x_seq (x_region (s_val rfl (v_move rfl) (s_val rfl (v_assign rfl) (x_nil (n_then (x_ret (r_then (x_done (.inl rfl) (.cons (r_tmp rfl) .nil) ?_))))))))
      rw [show svF fr f off w x = fr by simp [svF, hs]]
      exact ⟨_, ⟨by simp [pack, hf', hs], rfl⟩, inferInstance⟩
    · intro c2
      exact absurd c2 (by simp [hf'])
end Go.Proofs.YtllkdnadmmjehaaGreatDoor
namespace Go.Proofs.YtllkdnadmmjehaaGreatDoor
open Go.RowKit
set_option linter.unusedSimpArgs false
set_option linter.unusedVariables false
set_option maxRecDepth 20000
abbrev Pl := Int × Int
@[reducible] def plV (p : Pl) : List Value := [.int .i64 p.1, .int .i64 p.2]
theorem plV_len (p : Pl) : (plV p).length = 2 := rfl
def plAt (pg : List Pl) (n : Nat) : Pl := pg.getD n (0, 0)
def okPl (p : Pl) : Bool := decide (0 ≤ p.1 ∧ p.1 < 32 ∧ 1 ≤ p.2 ∧ p.2 ≤ 3)
structure Pgs (pg : List Pl) : Prop where
  len : pg.length = 12
  ok : ∀ n, n < 12 → plAt pg n ≠ (0, 0) → okPl (plAt pg n) = true
def isP (n : Int) : Bool := decide (0 ≤ n ∧ n < 12)
theorem isP_nat {n : Int} (h : isP n = true) : ∃ i : Nat, n = (i : Int) ∧ i < 12 := by
  simp only [isP, decide_eq_true_eq] at h
  exact ⟨n.toNat, by omega, by omega⟩
abbrev gmO (pg : List Pl) : Obj := cob (pg.flatMap plV ++ [.bool true]) 129
theorem pg_row {pg : List Pl} {sp : List Value} {n : Nat} (hn : n < pg.length) : ((pg.flatMap plV ++ sp).drop (n * 2)).take 2 = plV (plAt pg n) := by
  rw [flat_row plV_len pg n sp hn]; simp [plAt, List.getD, hn]
theorem pg_set {pg : List Pl} {sp : List Value} {n : Nat} {p : Pl} (hn : n < pg.length) : setR (pg.flatMap plV ++ sp) (n * 2) (plV p) = (pg.set n p).flatMap plV ++ sp := flat_set plV_len pg n p sp hn
theorem pg_len (pg : List Pl) (sp : List Value) : (pg.flatMap plV ++ sp).length = pg.length * 2 + sp.length := by rw [List.length_append, flat_len plV_len]
theorem pg_made {pg : List Pl} (h : pg.length = 12) : (pg.flatMap plV ++ [.bool true])[24]? = some (Value.bool true) := by
  rw [List.getElem?_append_right (by rw [flat_len plV_len]; omega), flat_len plV_len, h]; rfl
theorem gmNew_spec (W0 : World) (R : List HP) : Spec Tryz.prog W0 22 [] R (fun v B => ∃ b, v = .pointer (some ⟨b, 0, none⟩) ∧ B = pt b (gmO (List.replicate 12 (0, 0))) :: R) := by
  refine spec_body Tryz.func22 Tryz.ntmps22 rfl rfl ?_
  refine x_seq (x_region (s_val rfl (v_assign rfl) (x_nil (n_then (x_seq (x_region (s_val rfl (v_build Tryz.underlying129 Tryz.zeroValue129 (sized_cons Tryz.sizeOf80 (sized_cons Tryz.sizeOf4 sized_nil)) (fil_scal rfl Tryz.sizeOf4 rfl rfl (Nat.le_of_ble_eq_true rfl) SetL.eq fil_nil)) ?_)))))))
  refine s_do rfl (d_boxA rfl) ?_
  rintro _ _ ⟨b1, rfl, rfl⟩
  refine s_val rfl (v_assign rfl) (x_nil (n_then (x_ret (x_done (.inl rfl) (.cons (r_tmp rfl) .nil) ?_))))
  exact ⟨_, ⟨b1, rfl, rfl⟩, ent_refl⟩
theorem gmNone_spec (W0 : World) (R : List HP) (b : Nat) (pg : List Pl) (h : Pgs pg) : Spec Tryz.prog W0 53 [.pointer (some ⟨b, 0, none⟩)] (pt b (gmO pg) :: R) (fun v B => v = .bool false ∧ B = pt b (gmO pg) :: R) := by
  refine spec_body Tryz.func53 Tryz.ntmps53 rfl rfl ?_
  refine x_seq (x_region (s_val rfl (v_assign rfl) (x_nil (n_then (x_seq (x_region (s_val rfl (v_move rfl) (s_val rfl (v_eql_ptr_nil Tryz.underlying72 rfl rfl) (s_val rfl (v_move rfl) ?_)))))))))
  refine s_or rfl rfl rfl ?_ ?_
  · intro g1_3
    cases g1_3
  · intro g1_3
    refine s_val rfl (v_move rfl) (s_yes rfl rfl (s_val rfl (v_nilCheck rfl) (s_yes rfl rfl ?_)))
    refine s_val rfl (v_fieldAddr rfl Tryz.underlying129 rfl Tryz.sizeOf4 rfl (by first | exact Nat.zero_add _ | rfl)) ?_
    refine s_yes rfl rfl (s_val rfl (v_load Tryz.isAgg4 rfl (cell_own (pg_made h.len))) ?_)
    refine s_yes rfl rfl (s_val rfl (v_not rfl) (s_val rfl (v_pick_f rfl rfl) (s_val rfl (v_assign rfl) (x_nil (n_then (x_ret (x_done (.inl rfl) (.cons (r_tmp rfl) .nil) ?_)))))))
    exact ⟨_, ⟨rfl, rfl⟩, inferInstance⟩
theorem gmPage_spec (W0 : World) (R : List HP) (n : Int) : Spec Tryz.prog W0 56 [.int .i64 n] R (fun v B => v = .bool (isP n) ∧ B = R) := by
  refine spec_body Tryz.func56 Tryz.ntmps56 rfl rfl ?_
  refine x_seq (x_region (s_val rfl (v_assign rfl) (x_nil (n_then (x_seq (x_region (s_val rfl (v_move rfl) (s_val rfl (v_geq rfl rfl) (s_val rfl (v_move rfl) ?_)))))))))
  refine s_and rfl rfl rfl ?_ ?_
  · intro g1_3
    refine s_val rfl (v_move rfl) (s_yes rfl rfl (s_val rfl (v_lss rfl rfl) (s_val rfl (v_pick_t rfl rfl) (s_val rfl (v_assign rfl) (x_nil (n_then (x_ret (x_done (.inl rfl) (.cons (r_tmp rfl) .nil) ?_))))))))
    refine ⟨_, ⟨?_, rfl⟩, inferInstance⟩
    refine congrArg Value.bool ?_
    rw [Bool.eq_iff_iff]; simp only [isP, decide_eq_true_eq, Bool.false_eq_true, false_iff]; omega
  · intro g1_3
    refine s_no rfl rfl rfl rfl (s_val rfl (v_pick_f rfl rfl) (s_val rfl (v_assign rfl) (x_nil (n_then (x_ret (x_done (.inl rfl) (.cons (r_tmp rfl) .nil) ?_))))))
    refine ⟨_, ⟨?_, rfl⟩, inferInstance⟩
    refine congrArg Value.bool ?_
    rw [Bool.eq_iff_iff]; simp only [isP, decide_eq_true_eq, Bool.false_eq_true, false_iff]; omega
theorem gmPlace_spec (W0 : World) (R : List HP) (p : Pl) : Spec Tryz.prog W0 57 [.agg (plV p).toArray] R (fun v B => v = .bool (okPl p) ∧ B = R) := by
  refine spec_body Tryz.func57 Tryz.ntmps57 rfl rfl ?_
  refine x_seq (x_region (s_do rfl (d_boxA rfl) ?_))
  rintro _ _ ⟨b1, rfl, rfl⟩
  refine s_val rfl (v_assign rfl) (x_nil (n_then (x_seq (x_region ?_))))
  refine s_val rfl (v_fieldAddr rfl Tryz.underlying70 rfl Tryz.sizeOf3 rfl (by first | exact Nat.zero_add _ | rfl)) ?_
  refine s_val rfl (v_load Tryz.isAgg3 rfl (cell_own rfl)) ?_
  refine s_val rfl (v_geq rfl rfl) (s_val rfl (v_move rfl) ?_)
  refine s_and rfl rfl rfl ?_ ?_
  · intro g1_4
    refine s_val rfl (v_fieldAddr rfl Tryz.underlying70 rfl Tryz.sizeOf3 rfl (by first | exact Nat.zero_add _ | rfl)) ?_
    refine s_yes rfl rfl (s_val rfl (v_load Tryz.isAgg3 rfl (cell_own rfl)) ?_)
    refine s_yes rfl rfl (s_val rfl (v_lss rfl rfl) (s_val rfl (v_pick_t rfl rfl) (s_val rfl (v_move rfl) ?_)))
    refine s_and rfl rfl rfl ?_ ?_
    · intro g1_9
      refine s_val rfl (v_fieldAddr rfl Tryz.underlying70 rfl Tryz.sizeOf3 rfl (by first | exact Nat.zero_add _ | rfl)) ?_
      refine s_yes rfl rfl (s_val rfl (v_load Tryz.isAgg3 rfl (cell_own rfl)) ?_)
      refine s_yes rfl rfl (s_val rfl (v_geq rfl rfl) (s_val rfl (v_pick_t rfl rfl) (s_val rfl (v_move rfl) ?_)))
      refine s_and rfl rfl rfl ?_ ?_
      · intro g1_14
        refine s_val rfl (v_fieldAddr rfl Tryz.underlying70 rfl Tryz.sizeOf3 rfl (by first | exact Nat.zero_add _ | rfl)) ?_
        refine s_yes rfl rfl (s_val rfl (v_load Tryz.isAgg3 rfl (cell_own rfl)) ?_)
        refine s_yes rfl rfl (s_val rfl (v_leq rfl rfl) (s_val rfl (v_pick_t rfl rfl) (s_val rfl (v_assign rfl) (x_nil (n_then (x_ret (x_done (.inl rfl) (.cons (r_tmp rfl) .nil) ?_)))))))
        refine ⟨_, ⟨?_, rfl⟩, inferInstance⟩
        refine congrArg Value.bool ?_
        rw [Bool.eq_iff_iff]; simp only [okPl, decide_eq_true_eq, Bool.false_eq_true, false_iff]; omega
      · intro g1_14
        refine s_no rfl rfl rfl rfl (s_no rfl rfl rfl rfl (s_val rfl (v_pick_f rfl rfl) (s_val rfl (v_assign rfl) (x_nil (n_then (x_ret (x_done (.inl rfl) (.cons (r_tmp rfl) .nil) ?_)))))))
        refine ⟨_, ⟨?_, rfl⟩, inferInstance⟩
        refine congrArg Value.bool ?_
        rw [Bool.eq_iff_iff]; simp only [okPl, decide_eq_true_eq, Bool.false_eq_true, false_iff]; omega
    · intro g1_9
      refine s_no rfl rfl rfl rfl (s_no rfl rfl rfl rfl (s_val rfl (v_pick_f rfl rfl) (s_val rfl (v_move rfl) (s_no rfl rfl rfl rfl (s_no rfl rfl rfl rfl (s_no rfl rfl rfl rfl (s_val rfl (v_pick_f rfl rfl) (s_val rfl (v_assign rfl) (x_nil (n_then (x_ret (x_done (.inl rfl) (.cons (r_tmp rfl) .nil) ?_))))))))))))
      refine ⟨_, ⟨?_, rfl⟩, inferInstance⟩
      refine congrArg Value.bool ?_
      rw [Bool.eq_iff_iff]; simp only [okPl, decide_eq_true_eq, Bool.false_eq_true, false_iff]; omega
  · intro g1_4
    refine s_no rfl rfl rfl rfl (s_no rfl rfl rfl rfl (s_val rfl (v_pick_f rfl rfl) (s_val rfl (v_move rfl) (s_no rfl rfl rfl rfl (s_no rfl rfl rfl rfl (s_no rfl rfl rfl rfl (s_val rfl (v_pick_f rfl rfl) (s_val rfl (v_move rfl) (s_no rfl rfl rfl rfl (s_no rfl rfl rfl rfl (s_no rfl rfl rfl rfl (s_val rfl (v_pick_f rfl rfl) (s_val rfl (v_assign rfl) (x_nil (n_then (x_ret (x_done (.inl rfl) (.cons (r_tmp rfl) .nil) ?_)))))))))))))))))
    refine ⟨_, ⟨?_, rfl⟩, inferInstance⟩
    refine congrArg Value.bool ?_
    rw [Bool.eq_iff_iff]; simp only [okPl, decide_eq_true_eq, Bool.false_eq_true, false_iff]; omega
def thereB (pg : List Pl) (n : Int) : Bool := isP n && decide (plAt pg n.toNat ≠ (0, 0))
theorem gmThere_spec (W0 : World) (R : List HP) (b : Nat) (pg : List Pl) (h : Pgs pg) (n : Int) : Spec Tryz.prog W0 54 [.pointer (some ⟨b, 0, none⟩), .int .i64 n] (pt b (gmO pg) :: R) (fun v B => v = .bool (thereB pg n) ∧ B = pt b (gmO pg) :: R) := by
  refine spec_body Tryz.func54 Tryz.ntmps54 rfl rfl ?_
  refine x_seq (x_region (s_val rfl (v_assign rfl) (x_nil (n_then (x_seq (x_region (s_val rfl (v_move rfl) (s_do rfl (d_call Tryz.call56 rfl (gmPage_spec W0 _ n)) ?_))))))))
  rintro _ B_ ⟨rfl, hB_⟩
  obtain rfl := hB_.symm
  refine s_val rfl (v_move rfl) ?_
  refine s_and rfl rfl rfl ?_ ?_
  · intro g1_3
    obtain ⟨i, rfl, hi⟩ := isP_nat g1_3
    have hl := h.len
    refine s_val rfl (v_move rfl) (s_yes rfl rfl (s_val rfl (v_move rfl) (s_yes rfl rfl (s_val rfl (v_nilCheck rfl) (s_yes rfl rfl ?_)))))
    refine s_val rfl (v_fieldAddr rfl Tryz.underlying129 rfl Tryz.sizeOf80 rfl (by first | exact Nat.zero_add _ | rfl)) ?_
    refine s_yes rfl rfl ?_
    refine s_val rfl (v_idxArr Tryz.underlying80 Tryz.sizeOf70 rfl rfl rfl (by omega) (by first | exact Nat.zero_add _ | rfl)) ?_
    refine s_yes rfl rfl ?_
    refine s_val rfl (v_loadAgg Tryz.isAgg70 Tryz.sizeOf70 rfl (cells_part (pg_row (by omega)) rfl) rfl) ?_
    refine s_yes rfl rfl (s_val rfl (v_build Tryz.underlying70 Tryz.zeroValue70 (sized_cons Tryz.sizeOf3 (sized_cons Tryz.sizeOf3 sized_nil)) fil_nil) ?_)
    refine s_yes rfl rfl (s_val rfl (v_neq_agg Tryz.eqGuardType70 rfl rfl (q_struct Tryz.underlying70 Tryz.stoodInHeld70 (qf_scal rfl Tryz.isAgg3 rfl rfl (q_int Tryz.underlying3) (qf_scal rfl Tryz.isAgg3 rfl rfl (q_int Tryz.underlying3) qf_nil)))) ?_)
    refine s_val rfl (v_pick_t rfl rfl) (s_val rfl (v_assign rfl) (x_nil (n_then (x_ret (x_done (.inl rfl) (.cons (r_tmp rfl) .nil) ?_)))))
    refine ⟨_, ⟨?_, rfl⟩, inferInstance⟩
    refine congrArg Value.bool ?_
    first
      | (rw [Bool.eq_iff_iff]; simp [thereB, g1_3, Prod.ext_iff])
      | simp [thereB, g1_3]
  · intro g1_3
    refine s_no rfl rfl rfl rfl (s_no rfl rfl rfl rfl (s_no rfl rfl rfl rfl (s_no rfl rfl rfl rfl (s_no rfl rfl rfl rfl (s_no rfl rfl rfl rfl (s_no rfl rfl rfl rfl (s_val rfl (v_pick_f rfl rfl) (s_val rfl (v_assign rfl) (x_nil (n_then (x_ret (x_done (.inl rfl) (.cons (r_tmp rfl) .nil) ?_))))))))))))
    refine ⟨_, ⟨?_, rfl⟩, inferInstance⟩
    refine congrArg Value.bool ?_
    first
      | (rw [Bool.eq_iff_iff]; simp [thereB, g1_3, Prod.ext_iff])
      | simp [thereB, g1_3]
def gGot (pg : List Pl) (n : Int) : Pl := if thereB pg n then plAt pg n.toNat else (0, 0)
theorem gmGet_spec (W0 : World) (R : List HP) (b : Nat) (pg : List Pl) (h : Pgs pg) (n : Int) : Spec Tryz.prog W0 19 [.pointer (some ⟨b, 0, none⟩), .int .i64 n] (pt b (gmO pg) :: R)
    (fun v B => v = .tuple #[.agg (plV (gGot pg n)).toArray, .bool (thereB pg n)] ∧ B = pt b (gmO pg) :: R) := by
  refine spec_body Tryz.func19 Tryz.ntmps19 rfl rfl ?_
  refine x_seq (x_region (s_do rfl (d_allocA Tryz.zeroValue70) ?_))
  rintro _ _ ⟨b1, rfl, rfl⟩
  refine s_val rfl (v_assign rfl) (x_nil (n_then (x_seq (x_seq (x_region (s_val rfl (v_move rfl) (s_do rfl (d_call1 Tryz.call53 rfl (gmNone_spec W0 _ b pg h)) ?_)))))))
  rintro _ B_ ⟨rfl, hB_⟩
  obtain rfl := hB_.symm
  refine s_val rfl (v_move rfl) ?_
  refine s_or rfl rfl rfl ?_ ?_
  · intro g1_3
    exact absurd g1_3 (by decide)
  · intro g1_3
    refine s_val rfl (v_move rfl) (s_yes rfl rfl (s_val rfl (v_move rfl) (s_yes rfl rfl (s_do rfl (d_call1 Tryz.call54 rfl (gmThere_spec W0 _ b pg h n)) ?_))))
    rintro _ B_ ⟨rfl, hB_⟩
    obtain rfl := hB_.symm
    refine s_yes rfl rfl (s_val rfl (v_not rfl) (s_val rfl (v_pick_f rfl rfl) (x_nil (n_then ?_))))
    refine x_if rfl ?_ ?_
    · intro c1
      refine x_seq (x_region (s_val rfl (v_build Tryz.underlying70 Tryz.zeroValue70 (sized_cons Tryz.sizeOf3 (sized_cons Tryz.sizeOf3 sized_nil)) fil_nil) ?_))
      refine s_do0 (d_storeAll Tryz.sizeOf70 rfl rfl rfl rfl rfl) ?_
      rintro _ _ rfl
      refine s_val rfl (v_assign rfl) (x_nil (n_then (x_ret (r_then (x_done (.inl rfl) (.cons (r_all Tryz.isAgg70 Tryz.sizeOf70 rfl rfl) (.cons (r_tmp rfl) .nil)) ?_)))))
      refine ⟨_, ⟨?_, rfl⟩, inferInstance⟩
      have ht : thereB pg n = false := by simpa using c1
      simp [pack, gGot, ht]
    · intro c1
      have ht : thereB pg n = true := by simpa using c1
      have hp : isP n = true := by simp only [thereB, Bool.and_eq_true] at ht; exact ht.1
      obtain ⟨i, rfl, hi⟩ := isP_nat hp
      have hl := h.len
      refine x_skip (n_then (x_seq (x_region (s_val rfl (v_move rfl) (s_val rfl (v_move rfl) (s_val rfl (v_nilCheck rfl) ?_))))))
      refine s_val rfl (v_fieldAddr rfl Tryz.underlying129 rfl Tryz.sizeOf80 rfl (by first | exact Nat.zero_add _ | rfl)) ?_
      refine s_val rfl (v_idxArr Tryz.underlying80 Tryz.sizeOf70 rfl rfl rfl (by omega) (by first | exact Nat.zero_add _ | rfl)) ?_
      refine s_val rfl (v_loadAgg Tryz.isAgg70 Tryz.sizeOf70 rfl (cells_part (pg_row (by omega)) rfl) rfl) ?_
      refine s_do0 (d_storeAll Tryz.sizeOf70 rfl rfl rfl rfl rfl) ?_
      rintro _ _ rfl
      refine s_val rfl (v_assign rfl) (x_nil (n_then (x_ret (x_done (.inl rfl) (.cons (r_all Tryz.isAgg70 Tryz.sizeOf70 rfl rfl) (.cons (r_tmp rfl) .nil)) ?_))))
      refine ⟨_, ⟨?_, rfl⟩, inferInstance⟩
      simp [pack, gGot, ht]
def setE (pg : List Pl) (n : Int) (p : Pl) : Int := if isP n ∧ okPl p then (if thereB pg n then 5 else 0) else 1
def setP (pg : List Pl) (n : Int) (p : Pl) : List Pl := if setE pg n p = 0 then pg.set n.toNat p else pg
theorem setP_ok {pg : List Pl} {n : Int} {p : Pl} (h : Pgs pg) : Pgs (setP pg n p) := by
  unfold setP; split
  · rename_i hs
    have hop : okPl p = true := by
      unfold setE at hs; split at hs
      · rename_i k; exact k.2
      · omega
    refine ⟨by simp [h.len], fun m hm hne => ?_⟩
    unfold plAt at hne ⊢
    by_cases e : n.toNat = m
    · subst e
      simp only [List.getD_eq_getElem?_getD, List.getElem?_set, if_true] at hne ⊢
      rw [if_pos (by rw [h.len]; exact hm)] at hne ⊢
      exact hop
    · simp only [List.getD_eq_getElem?_getD, List.getElem?_set_ne e] at hne ⊢
      have := h.ok m hm
      unfold plAt at this
      simp only [List.getD_eq_getElem?_getD] at this
      exact this hne
  · exact h
theorem gmSet_spec (W0 : World) (R : List HP) (b : Nat) (pg : List Pl) (h : Pgs pg) (n : Int) (p : Pl) : Spec Tryz.prog W0 24 [.pointer (some ⟨b, 0, none⟩), .int .i64 n, .agg (plV p).toArray] (pt b (gmO pg) :: R)
    (fun v B => v = .int .i64 (setE pg n p) ∧ B = pt b (gmO (setP pg n p)) :: R) := by
  have hl := h.len
  refine spec_body Tryz.func24 Tryz.ntmps24 rfl rfl ?_
  refine x_seq (x_region (s_do rfl (d_boxA rfl) ?_))
  rintro _ _ ⟨b1, rfl, rfl⟩
  refine s_val rfl (v_assign rfl) (x_nil (n_then (x_seq (x_block (x_seq (x_region (s_val rfl (v_move rfl) (s_do rfl (d_call1 Tryz.call53 rfl (gmNone_spec W0 _ b pg h)) ?_))))))))
  rintro _ B_ ⟨rfl, hB_⟩
  obtain rfl := hB_.symm
  refine s_val rfl (v_assign rfl) (x_nil (n_then ?_))
  refine x_if rfl ?_ ?_
  · intro c1
    exact absurd c1 (by decide)
  · intro c1
    refine x_seq (x_seq (x_region (s_val rfl (v_move rfl) (s_do rfl (d_call Tryz.call56 rfl (gmPage_spec W0 _ n)) ?_))))
    rintro _ B_ ⟨rfl, hB_⟩
    obtain rfl := hB_.symm
    refine s_val rfl (v_not rfl) (s_val rfl (v_assign rfl) (x_nil (n_then ?_)))
    refine x_if rfl ?_ ?_
    · intro c3
      refine x_skip (n_then (x_ift rfl (x_seq (x_region (s_val rfl (v_assign rfl) (x_nil (n_then (x_ret (r_block (r_then (x_done (.inl rfl) (.cons (r_tmp rfl) .nil) ?_)))))))))))
      have he : setE pg n p = 1 := by
        unfold setE; rw [if_neg]
        first
          | (intro hk; exact absurd hk.1 (by simpa using c3))
          | (intro hk; exact absurd hk.2 (by simpa using c4))
      exact ⟨_, ⟨by simp [pack, he], by rw [setP, he, if_neg (by decide)]⟩, inferInstance⟩
    · intro c3
      have hp : isP n = true := by simpa using c3
      refine x_region (s_val rfl (v_loadAll Tryz.isAgg70 Tryz.sizeOf70 rfl rfl) ?_)
      refine s_do rfl (d_call Tryz.call57 rfl (gmPlace_spec W0 _ p)) ?_
      rintro _ B_ ⟨rfl, hB_⟩
      obtain rfl := hB_.symm
      refine s_val rfl (v_not rfl) (s_val rfl (v_assign rfl) (x_nil (n_then ?_)))
      refine x_if rfl ?_ ?_
      · intro c4
        refine x_seq (x_region (s_val rfl (v_assign rfl) (x_nil (n_then (x_ret (r_block (r_then (x_done (.inl rfl) (.cons (r_tmp rfl) .nil) ?_))))))))
        have he : setE pg n p = 1 := by
          unfold setE; rw [if_neg]
          first
            | (intro hk; exact absurd hk.1 (by simpa using c3))
            | (intro hk; exact absurd hk.2 (by simpa using c4))
        exact ⟨_, ⟨by simp [pack, he], by rw [setP, he, if_neg (by decide)]⟩, inferInstance⟩
      · intro c4
        have ho : okPl p = true := by simpa using c4
        refine x_seq (x_region (s_val rfl (v_move rfl) (s_val rfl (v_move rfl) (s_do rfl (d_call1 Tryz.call54 rfl (gmThere_spec W0 _ b pg h n)) ?_))))
        rintro _ B_ ⟨rfl, hB_⟩
        obtain rfl := hB_.symm
        refine s_val rfl (v_assign rfl) (x_nil (n_then ?_))
        refine x_if rfl ?_ ?_
        · intro c6
          refine x_seq (x_region (s_val rfl (v_assign rfl) (x_nil (n_then (x_ret (r_block (r_then (x_done (.inl rfl) (.cons (r_tmp rfl) .nil) ?_))))))))
          have he : setE pg n p = 5 := by
            unfold setE; rw [if_pos ⟨hp, ho⟩, if_pos c6]
          exact ⟨_, ⟨by simp [pack, he], by rw [setP, he, if_neg (by decide)]⟩, inferInstance⟩
        · intro c6
          have ht : thereB pg n = false := by simpa using c6
          have he : setE pg n p = 0 := by simp [setE, hp, ho, ht]
          refine x_skip (n_block (n_then (x_seq ?_)))
          obtain ⟨i, rfl, hi⟩ := isP_nat hp
          refine x_draw [(b1, 0, _)] 7 mixed rfl (sc_own sc_end) (fun hS => ?_)
          refine d_take 0 rfl rfl (by kernel_rfl) (by kernel_rfl) (by kernel_rfl) rfl hS (v_move rfl) ?_
          refine d_take 1 rfl rfl (by kernel_rfl) (by kernel_rfl) (by kernel_rfl) rfl hS (v_move rfl) ?_
          refine d_take 2 rfl rfl (by kernel_rfl) (by kernel_rfl) (by kernel_rfl) rfl hS (v_loadAgg Tryz.isAgg70 Tryz.sizeOf70 rfl (cells_sc (k := 0) rfl) rfl) ?_
          refine d_take 3 rfl rfl (by kernel_rfl) (by kernel_rfl) (by kernel_rfl) rfl hS (v_nilCheck rfl) ?_
          refine d_take 4 rfl rfl (by kernel_rfl) (by kernel_rfl) (by kernel_rfl) rfl hS (v_fieldAddr rfl Tryz.underlying129 rfl Tryz.sizeOf80 rfl (by first | exact Nat.zero_add _ | rfl)) ?_
          refine d_take 5 rfl rfl (by kernel_rfl) (by kernel_rfl) (by kernel_rfl) rfl hS (v_idxArr Tryz.underlying80 Tryz.sizeOf70 rfl rfl rfl hi (by first | exact Nat.zero_add _ | rfl)) ?_
          refine d_one 6 (by kernel_rfl) rfl rfl (d_storeAgg Tryz.sizeOf70 rfl rfl rfl rfl (by rw [pg_len, hl]; omega) (pg_set (by omega))) rfl ?_; clear hS
          rintro _ _ rfl
          refine ⟨(sc_own sc_end), fun hS => ?_⟩
          refine d_done (by kernel_rfl) ?_; clear hS
          refine n_then (x_seq (x_region (s_val rfl (v_assign rfl) (x_nil (n_then (x_ret (x_done (.inl rfl) (.cons (r_tmp rfl) .nil) ?_)))))))
          rw [show setP pg i p = pg.set i p by simp [setP, he]]
          exact ⟨_, ⟨by simp [pack, he], rfl⟩, inferInstance⟩
theorem gmDrop_spec (W0 : World) (R : List HP) (b : Nat) (pg : List Pl) (h : Pgs pg) : Spec Tryz.prog W0 37 [.pointer (some ⟨b, 0, none⟩), .int .i64 12] (pt b (gmO pg) :: R)
    (fun v B => v = .int .i64 1 ∧ B = pt b (gmO pg) :: R) := by
  refine spec_body Tryz.func37 Tryz.ntmps37 rfl rfl ?_
  refine x_seq (x_region (s_val rfl (v_assign rfl) (x_nil (n_then (x_seq (x_block (x_seq (x_region (s_val rfl (v_move rfl) (s_do rfl (d_call1 Tryz.call53 rfl (gmNone_spec W0 _ b pg h)) ?_))))))))))
  rintro _ B_ ⟨rfl, hB_⟩
  obtain rfl := hB_.symm
  refine s_val rfl (v_assign rfl) (x_nil (n_then ?_))
  refine x_if rfl ?_ ?_
  · intro c1
    exact absurd c1 (by decide)
  · intro c1
    refine x_seq (x_region (s_val rfl (v_move rfl) (s_do rfl (d_call Tryz.call56 rfl (gmPage_spec W0 _ 12)) ?_)))
    rintro _ B_ ⟨rfl, hB_⟩
    obtain rfl := hB_.symm
    refine s_val rfl (v_not rfl) (s_val rfl (v_assign rfl) (x_nil (n_then ?_)))
    refine x_if rfl ?_ ?_
    · intro c3
      refine x_seq (x_region (s_val rfl (v_assign rfl) (x_nil (n_then (x_ret (r_block (r_then (x_done (.inl rfl) (.cons (r_tmp rfl) .nil) ?_))))))))
      exact ⟨_, ⟨rfl, rfl⟩, inferInstance⟩
    · intro c3
      exact absurd c3 (by decide)
def mayB (n : Int) (p : Pl) (kind : Int) : Bool := decide (kind = 0 ∧ n < 8 ∨ kind = 1 ∧ p.2 % 2 = 1 ∨ kind = 2 ∧ 2 ≤ p.2)
theorem okPl_iff {p : Pl} : okPl p = true ↔ 0 ≤ p.1 ∧ p.1 < 32 ∧ 1 ≤ p.2 ∧ p.2 ≤ 3 := by simp [okPl]
theorem and13 {r : Int} (h : 1 ≤ r ∧ r ≤ 3) : bAnd .i64 r 1 = r % 2 := by
  have : r = 1 ∨ r = 2 ∨ r = 3 := by omega
  rcases this with rfl | rfl | rfl <;> decide
theorem and23 {r : Int} (h : 1 ≤ r ∧ r ≤ 3) : bAnd .i64 r 2 = r / 2 * 2 := by
  have : r = 1 ∨ r = 2 ∨ r = 3 := by omega
  rcases this with rfl | rfl | rfl <;> decide
theorem gmMay_spec (W0 : World) (R : List HP) (n : Int) (p : Pl) (hp : okPl p = true) (kind : Int) : Spec Tryz.prog W0 134 [.int .i64 n, .agg (plV p).toArray, .int .i64 kind] R (fun v B => v = .bool (mayB n p kind) ∧ B = R) := by
  have ho := okPl_iff.1 hp
  refine spec_body Tryz.func134 Tryz.ntmps134 rfl rfl ?_
  refine x_seq (x_region (s_do rfl (d_boxA rfl) ?_))
  rintro _ _ ⟨b1, rfl, rfl⟩
  refine s_val rfl (v_assign rfl) (x_nil (n_then (x_seq (x_seq (x_region (s_val rfl (v_move rfl) (x_nil (n_then (x_block (x_seq (x_region (s_val rfl (v_eql rfl rfl) (s_val rfl (v_assign rfl) (x_nil (n_then ?_)))))))))))))))
  refine x_if rfl ?_ ?_
  · intro c2
    refine x_seq (x_region (s_val rfl (v_move rfl) (s_val rfl (v_lss rfl rfl) (s_val rfl (v_assign rfl) (x_nil (n_then (x_ret (r_block (r_then (x_done (.inl rfl) (.cons (r_tmp rfl) .nil) ?_))))))))))
    refine ⟨_, ⟨?_, rfl⟩, inferInstance⟩
    refine congrArg Value.bool ?_
    rw [Bool.eq_iff_iff]; simp only [mayB, decide_eq_true_eq, Bool.false_eq_true, false_iff, bne_iff_ne]; omega
  · intro c2
    refine x_seq (x_region (s_val rfl (v_eql rfl rfl) (s_val rfl (v_assign rfl) (x_nil (n_then ?_)))))
    refine x_if rfl ?_ ?_
    · intro c4
      refine x_seq (x_region ?_)
      refine s_val rfl (v_fieldAddr rfl Tryz.underlying70 rfl Tryz.sizeOf3 rfl (by first | exact Nat.zero_add _ | rfl)) ?_
      refine s_val rfl (v_load Tryz.isAgg3 rfl (cell_own rfl)) ?_
      refine s_val rfl (v_and rfl rfl (and13 ⟨ho.2.2.1, ho.2.2.2⟩)) ?_
      refine s_val rfl (v_neq rfl rfl) (s_val rfl (v_assign rfl) (x_nil (n_then (x_ret (r_block (r_then (x_done (.inl rfl) (.cons (r_tmp rfl) .nil) ?_)))))))
      refine ⟨_, ⟨?_, rfl⟩, inferInstance⟩
      refine congrArg Value.bool ?_
      rw [Bool.eq_iff_iff]; simp only [mayB, decide_eq_true_eq, Bool.false_eq_true, false_iff, bne_iff_ne]; omega
    · intro c4
      refine x_seq (x_region (s_val rfl (v_eql rfl rfl) (s_val rfl (v_assign rfl) (x_nil (n_then ?_)))))
      refine x_if rfl ?_ ?_
      · intro c6
        refine x_seq (x_region ?_)
        refine s_val rfl (v_fieldAddr rfl Tryz.underlying70 rfl Tryz.sizeOf3 rfl (by first | exact Nat.zero_add _ | rfl)) ?_
        refine s_val rfl (v_load Tryz.isAgg3 rfl (cell_own rfl)) ?_
        refine s_val rfl (v_and rfl rfl (and23 ⟨ho.2.2.1, ho.2.2.2⟩)) ?_
        refine s_val rfl (v_neq rfl rfl) (s_val rfl (v_assign rfl) (x_nil (n_then (x_ret (r_block (r_then (x_done (.inl rfl) (.cons (r_tmp rfl) .nil) ?_)))))))
        refine ⟨_, ⟨?_, rfl⟩, inferInstance⟩
        refine congrArg Value.bool ?_
        rw [Bool.eq_iff_iff]; simp only [mayB, decide_eq_true_eq, Bool.false_eq_true, false_iff, bne_iff_ne]; omega
      · intro c6
        refine x_skip (n_block (n_then (x_seq (x_region (s_val rfl (v_assign rfl) (x_nil (n_then (x_ret (x_done (.inl rfl) (.cons (r_tmp rfl) .nil) ?_)))))))))
        refine ⟨_, ⟨?_, rfl⟩, inferInstance⟩
        refine congrArg Value.bool ?_
        rw [Bool.eq_iff_iff]; simp only [mayB, decide_eq_true_eq, Bool.false_eq_true, false_iff, bne_iff_ne]; omega
def alwE (pg : List Pl) (n kind : Int) : Int := if thereB pg n then (if mayB n (plAt pg n.toNat) kind then 0 else 6) else 7
theorem gGot_ok {pg : List Pl} {n : Int} (h : Pgs pg) (ht : thereB pg n = true) : okPl (gGot pg n) = true := by
  simp only [gGot, ht, if_true]
  simp only [thereB, Bool.and_eq_true, decide_eq_true_eq] at ht
  obtain ⟨i, rfl, hi⟩ := isP_nat ht.1
  exact h.ok _ (by simpa using hi) ht.2
theorem gmAllows_spec (W0 : World) (R : List HP) (b : Nat) (pg : List Pl) (h : Pgs pg) (n kind : Int) : Spec Tryz.prog W0 97 [.pointer (some ⟨b, 0, none⟩), .int .i64 n, .int .i64 kind] (pt b (gmO pg) :: R)
    (fun v B => v = .int .i64 (alwE pg n kind) ∧ B = pt b (gmO pg) :: R) := by
  refine spec_body Tryz.func97 Tryz.ntmps97 rfl rfl ?_
  refine x_seq (x_region (s_val rfl (v_assign rfl) (x_nil (n_then (x_seq (x_region (s_val rfl (v_move rfl) (s_val rfl (v_move rfl) (s_do rfl (d_call1 Tryz.call19 rfl (gmGet_spec W0 _ b pg h n)) ?_)))))))))
  rintro _ B_ ⟨rfl, hB_⟩
  obtain rfl := hB_.symm
  refine s_val rfl (v_move rfl) (s_val rfl (v_extract rfl rfl) (s_val rfl (v_extract rfl rfl) (s_do rfl (d_allocA Tryz.zeroValue70) ?_)))
  rintro _ _ ⟨b1, rfl, rfl⟩
  refine s_do0 (d_storeAll Tryz.sizeOf70 rfl rfl rfl rfl rfl) ?_
  rintro _ _ rfl
  refine s_val rfl (v_assign rfl) (x_nil (n_then (x_seq (x_block (x_seq (x_region (s_val rfl (v_move rfl) (s_val rfl (v_not rfl) (s_val rfl (v_assign rfl) (x_nil (n_then ?_)))))))))))
  refine x_if rfl ?_ ?_
  · intro c2
    refine x_seq (x_region (s_val rfl (v_assign rfl) (x_nil (n_then (x_ret (r_block (r_then (x_done (.inl rfl) (.cons (r_tmp rfl) .nil) ?_))))))))
    refine ⟨_, ⟨?_, rfl⟩, inferInstance⟩
    have ht : thereB pg n = false := by simpa using c2
    simp [pack, alwE, ht]
  · intro c2
    have ht : thereB pg n = true := by simpa using c2
    refine x_seq (x_region (s_val rfl (v_move rfl) (s_val rfl (v_loadAll Tryz.isAgg70 Tryz.sizeOf70 rfl rfl) ?_)))
    refine s_val rfl (v_move rfl) (s_do rfl (d_call Tryz.call134 rfl (gmMay_spec W0 _ n (gGot pg n) (gGot_ok h ht) kind)) ?_)
    rintro _ B_ ⟨rfl, hB_⟩
    obtain rfl := hB_.symm
    refine s_val rfl (v_not rfl) (s_val rfl (v_assign rfl) (x_nil (n_then ?_)))
    refine x_if rfl ?_ ?_
    · intro c4
      refine x_seq (x_region (s_val rfl (v_assign rfl) (x_nil (n_then (x_ret (r_block (r_then (x_done (.inl rfl) (.cons (r_tmp rfl) .nil) ?_))))))))
      refine ⟨_, ⟨?_, rfl⟩, inferInstance⟩
      have hm : mayB n (plAt pg n.toNat) kind = false := by simpa [gGot, ht] using c4
      simp [pack, alwE, ht, hm]
    · intro c4
      refine x_skip (n_block (n_then (x_seq (x_region (s_val rfl (v_assign rfl) (x_nil (n_then (x_ret (x_done (.inl rfl) (.cons (r_tmp rfl) .nil) ?_)))))))))
      refine ⟨_, ⟨?_, rfl⟩, inferInstance⟩
      have hm : mayB n (plAt pg n.toNat) kind = true := by simpa [gGot, ht] using c4
      simp [pack, alwE, ht, hm]
end Go.Proofs.YtllkdnadmmjehaaGreatDoor
namespace Go.Proofs.YtllkdnadmmjehaaGreatDoor
open Go.RowKit
set_option linter.unusedSimpArgs false
set_option linter.unusedVariables false
set_option maxRecDepth 20000
abbrev viO (ps pm d : Nat) : Obj := cob [.pointer (some ⟨ps, 0, none⟩), .pointer (some ⟨pm, 0, none⟩), .int .u32 (d : Nat)] 101
theorem viNone_spec (W0 : World) (R : List HP) (pv ps pm d : Nat) : Spec Tryz.prog W0 35 [.pointer (some ⟨pv, 0, none⟩)] (pt pv (viO ps pm d) :: R) (fun v B => v = .bool false ∧ B = pt pv (viO ps pm d) :: R) := by
  refine spec_body Tryz.func35 Tryz.ntmps35 rfl rfl ?_
  refine x_seq (x_region (s_val rfl (v_assign rfl) (x_nil (n_then (x_seq (x_region (s_val rfl (v_move rfl) (s_val rfl (v_eql_ptr_nil Tryz.underlying25 rfl rfl) (s_val rfl (v_move rfl) ?_)))))))))
  refine s_or rfl rfl rfl ?_ ?_
  · intro g1_3
    cases g1_3
  · intro g1_3
    refine s_val rfl (v_move rfl) (s_yes rfl rfl (s_val rfl (v_nilCheck rfl) (s_yes rfl rfl ?_)))
    refine s_val rfl (v_fieldAddr rfl Tryz.underlying101 rfl Tryz.sizeOf47 rfl (by first | exact Nat.zero_add _ | rfl)) ?_
    refine s_yes rfl rfl (s_val rfl (v_load Tryz.isAgg47 rfl (cell_own rfl)) ?_)
    refine s_yes rfl rfl (s_val rfl (v_eql_ptr_nil Tryz.underlying47 rfl rfl) (s_val rfl (v_pick_f rfl rfl) (s_val rfl (v_assign rfl) (x_nil (n_then (x_ret (x_done (.inl rfl) (.cons (r_tmp rfl) .nil) ?_)))))))
    exact ⟨_, ⟨rfl, rfl⟩, inferInstance⟩
def alB (pa : Nat) (w : Int) : Bool := decide ((w = 1 ∨ w = 2 ∨ w = 4) ∧ (pa : Int) % w = 0)
theorem viAligned_spec (W0 : World) (R : List HP) (pa : Nat) (hpa : pa < 4294967296) (w : Int) : Spec Tryz.prog W0 96 [.int .u32 pa, .int .i64 w] R (fun v B => v = .bool (alB pa w) ∧ B = R) := by
  refine spec_body Tryz.func96 Tryz.ntmps96 rfl rfl ?_
  refine x_seq (x_region (s_val rfl (v_assign rfl) (x_nil (n_then (x_seq (x_seq (x_region (s_val rfl (v_move rfl) (x_nil (n_then (x_block (x_seq (x_seq (x_region (s_val rfl (v_eql rfl rfl) (s_val rfl (v_assign rfl) (x_nil (n_then ?_))))))))))))))))))
  refine x_if rfl ?_ ?_
  · intro c2
    refine x_skip (n_then (x_ift rfl (x_seq (x_region (s_val rfl (v_move rfl) (s_val rfl (v_move rfl) ?_))))))
    refine s_val rfl (v_conv Tryz.underlying3 Tryz.underlying31 rfl (w32u (by omega))) ?_
    refine s_val rfl (v_rem rfl rfl (by omega) (Int.tmod_eq_emod_of_nonneg (by omega))) ?_
    refine s_val rfl (v_eql rfl rfl) (s_val rfl (v_assign rfl) (x_nil (n_then (x_ret (r_block (r_then (x_done (.inl rfl) (.cons (r_tmp rfl) .nil) ?_)))))))
    refine ⟨_, ⟨?_, rfl⟩, inferInstance⟩
    refine congrArg Value.bool ?_
    rw [Bool.eq_iff_iff]; simp only [alB, decide_eq_true_eq, beq_iff_eq]
    first
      | (subst c2; simp)
      | (subst c3; simp)
      | (subst c4; simp)
  · intro c2
    refine x_seq (x_region (s_val rfl (v_eql rfl rfl) (s_val rfl (v_assign rfl) (x_nil (n_then ?_)))))
    refine x_if rfl ?_ ?_
    · intro c3
      refine x_skip (n_then (x_ift rfl (x_seq (x_region (s_val rfl (v_move rfl) (s_val rfl (v_move rfl) ?_))))))
      refine s_val rfl (v_conv Tryz.underlying3 Tryz.underlying31 rfl (w32u (by omega))) ?_
      refine s_val rfl (v_rem rfl rfl (by omega) (Int.tmod_eq_emod_of_nonneg (by omega))) ?_
      refine s_val rfl (v_eql rfl rfl) (s_val rfl (v_assign rfl) (x_nil (n_then (x_ret (r_block (r_then (x_done (.inl rfl) (.cons (r_tmp rfl) .nil) ?_)))))))
      refine ⟨_, ⟨?_, rfl⟩, inferInstance⟩
      refine congrArg Value.bool ?_
      rw [Bool.eq_iff_iff]; simp only [alB, decide_eq_true_eq, beq_iff_eq]
      first
        | (subst c2; simp)
        | (subst c3; simp)
        | (subst c4; simp)
    · intro c3
      refine x_region (s_val rfl (v_eql rfl rfl) (s_val rfl (v_assign rfl) (x_nil (n_then ?_))))
      refine x_if rfl ?_ ?_
      · intro c4
        refine x_seq (x_region (s_val rfl (v_move rfl) (s_val rfl (v_move rfl) ?_)))
        refine s_val rfl (v_conv Tryz.underlying3 Tryz.underlying31 rfl (w32u (by omega))) ?_
        refine s_val rfl (v_rem rfl rfl (by omega) (Int.tmod_eq_emod_of_nonneg (by omega))) ?_
        refine s_val rfl (v_eql rfl rfl) (s_val rfl (v_assign rfl) (x_nil (n_then (x_ret (r_block (r_then (x_done (.inl rfl) (.cons (r_tmp rfl) .nil) ?_)))))))
        refine ⟨_, ⟨?_, rfl⟩, inferInstance⟩
        refine congrArg Value.bool ?_
        rw [Bool.eq_iff_iff]; simp only [alB, decide_eq_true_eq, beq_iff_eq]
        first
          | (subst c2; simp)
          | (subst c3; simp)
          | (subst c4; simp)
      · intro c4
        refine x_skip (n_block (n_then (x_seq (x_region (s_val rfl (v_assign rfl) (x_nil (n_then (x_ret (x_done (.inl rfl) (.cons (r_tmp rfl) .nil) ?_)))))))))
        refine ⟨_, ⟨?_, rfl⟩, inferInstance⟩
        refine congrArg Value.bool ?_
        rw [Bool.eq_iff_iff]; simp only [alB, decide_eq_true_eq, Bool.false_eq_true, false_iff]; omega
def fndE (n : Nat) (pg : List Pl) (pa : Nat) (w kind : Int) : Int :=
  if alB pa w then (if pa < 768 then (if alwE pg ((pa / 64 : Nat) : Int) kind = 0 then (if (gGot pg ((pa / 64 : Nat) : Int)).1 < n then 0 else 7) else alwE pg ((pa / 64 : Nat) : Int) kind) else 2) else 1
def fndV (n : Nat) (pg : List Pl) (pa : Nat) (w kind : Int) : List Value :=
  if fndE n pg pa w kind = 0 then [.int .i64 (pa / 64 : Nat), .int .i64 (gGot pg ((pa / 64 : Nat) : Int)).1, .int .i64 (pa % 64 : Nat), .bool false] else [.int .i64 0, .int .i64 0, .int .i64 0, .bool false]
theorem viFind_spec (W0 : World) (R : List HP) (pv ps pm d : Nat) (fr : List Frm) (pg : List Pl) (h : Pgs pg) (pa : Nat) (hpa : pa < 4294967296) (w kind : Int) :
    Spec Tryz.prog W0 60 [.pointer (some ⟨pv, 0, none⟩), .int .u32 pa, .int .i64 w, .int .i64 kind] (pt pv (viO ps pm d) :: stoH ps fr :: pt pm (gmO pg) :: R)
      (fun v B => v = .tuple #[.agg (fndV fr.length pg pa w kind).toArray, .int .i64 (fndE fr.length pg pa w kind)] ∧ B = pt pv (viO ps pm d) :: stoH ps fr :: pt pm (gmO pg) :: R) := by
  refine spec_body Tryz.func60 Tryz.ntmps60 rfl rfl ?_
  refine x_seq (x_region (s_do rfl (d_allocA Tryz.zeroValue54) ?_))
  rintro _ _ ⟨b1, rfl, rfl⟩
  refine s_val rfl (v_assign rfl) (x_nil (n_then (x_seq (x_block (x_seq (x_region (s_val rfl (v_move rfl) (s_do rfl (d_call1 Tryz.call35 rfl (viNone_spec W0 _ pv ps pm d)) ?_))))))))
  rintro _ B_ ⟨rfl, hB_⟩
  obtain rfl := hB_.symm
  refine s_val rfl (v_assign rfl) (x_nil (n_then ?_))
  refine x_if rfl ?_ ?_
  · intro c1
    exact absurd c1 (by decide)
  · intro c1
    refine x_seq (x_region (s_val rfl (v_move rfl) (s_val rfl (v_move rfl) (s_do rfl (d_call Tryz.call96 rfl (viAligned_spec W0 _ pa hpa w)) ?_))))
    rintro _ B_ ⟨rfl, hB_⟩
    obtain rfl := hB_.symm
    refine s_val rfl (v_not rfl) (s_val rfl (v_assign rfl) (x_nil (n_then ?_)))
    refine x_if rfl ?_ ?_
    · intro c3
      refine x_seq (x_region (s_val rfl (v_build Tryz.underlying54 Tryz.zeroValue54 (sized_cons Tryz.sizeOf3 (sized_cons Tryz.sizeOf3 (sized_cons Tryz.sizeOf3 (sized_cons Tryz.sizeOf4 sized_nil)))) fil_nil) ?_))
      refine s_do0 (d_storeAll Tryz.sizeOf54 rfl rfl rfl rfl rfl) ?_
      rintro _ _ rfl
      refine s_val rfl (v_assign rfl) (x_nil (n_then (x_ret (r_block (r_then (x_done (.inl rfl) (.cons (r_all Tryz.isAgg54 Tryz.sizeOf54 rfl rfl) (.cons (r_tmp rfl) .nil)) ?_))))))
      refine ⟨_, ⟨?_, rfl⟩, inferInstance⟩
      have ha : alB pa w = false := by simpa using c3
      have he : fndE fr.length pg pa w kind = 1 := by simp [fndE, ha]
      simp [pack, fndV, he]
    · intro c3
      have ha : alB pa w = true := by simpa using c3
      refine x_seq (x_region (s_val rfl (v_move rfl) (s_val rfl (v_geq rfl rfl) (s_val rfl (v_assign rfl) (x_nil (n_then ?_))))))
      refine x_if rfl ?_ ?_
      · intro c5
        refine x_seq (x_region (s_val rfl (v_build Tryz.underlying54 Tryz.zeroValue54 (sized_cons Tryz.sizeOf3 (sized_cons Tryz.sizeOf3 (sized_cons Tryz.sizeOf3 (sized_cons Tryz.sizeOf4 sized_nil)))) fil_nil) ?_))
        refine s_do0 (d_storeAll Tryz.sizeOf54 rfl rfl rfl rfl rfl) ?_
        rintro _ _ rfl
        refine s_val rfl (v_assign rfl) (x_nil (n_then (x_ret (r_block (r_then (x_done (.inl rfl) (.cons (r_all Tryz.isAgg54 Tryz.sizeOf54 rfl rfl) (.cons (r_tmp rfl) .nil)) ?_))))))
        refine ⟨_, ⟨?_, rfl⟩, inferInstance⟩
        have he : fndE fr.length pg pa w kind = 2 := by unfold fndE; rw [if_pos ha, if_neg (by omega)]
        simp [pack, fndV, he]
      · intro c5
        refine x_skip (n_block (n_then (x_seq (x_region (s_val rfl (v_move rfl) ?_)))))
        refine s_val rfl (v_quo rfl rfl (by decide) ((congrArg (IntKind.wrap .u32) (tdivN pa 64)).trans (w32u (by omega)))) ?_
        refine s_val rfl (v_conv Tryz.underlying31 Tryz.underlying3 rfl (w64 (by omega))) ?_
        refine s_val rfl (v_assign rfl) (x_nil (n_then (x_seq (x_seq (x_region (s_val rfl (v_move rfl) (s_val rfl (v_nilCheck rfl) ?_)))))))
        refine s_val rfl (v_fieldAddr rfl Tryz.underlying101 rfl Tryz.sizeOf72 rfl (by first | exact Nat.zero_add _ | rfl)) ?_
        refine s_val rfl (v_load Tryz.isAgg72 rfl (cell_own rfl)) ?_
        refine s_val rfl (v_move rfl) (s_val rfl (v_move rfl) (s_do rfl (d_call1 Tryz.call97 rfl (gmAllows_spec W0 _ pm pg h ((pa / 64 : Nat) : Int) kind)) ?_))
        rintro _ B_ ⟨rfl, hB_⟩
        obtain rfl := hB_.symm
        refine s_val rfl (v_assign rfl) (x_nil (n_then (x_seq (x_region (s_val rfl (v_move rfl) (s_val rfl (v_neq rfl rfl) (x_nil (n_then ?_))))))))
        refine x_if rfl ?_ ?_
        · intro c9
          refine x_seq (x_region (s_val rfl (v_build Tryz.underlying54 Tryz.zeroValue54 (sized_cons Tryz.sizeOf3 (sized_cons Tryz.sizeOf3 (sized_cons Tryz.sizeOf3 (sized_cons Tryz.sizeOf4 sized_nil)))) fil_nil) ?_))
          refine s_val rfl (v_move rfl) (s_do0 (d_storeAll Tryz.sizeOf54 rfl rfl rfl rfl rfl) ?_)
          rintro _ _ rfl
          refine s_val rfl (v_assign rfl) (x_nil (n_then (x_ret (r_then (x_done (.inl rfl) (.cons (r_all Tryz.isAgg54 Tryz.sizeOf54 rfl rfl) (.cons (r_tmp rfl) .nil)) ?_)))))
          refine ⟨_, ⟨?_, rfl⟩, inferInstance⟩
          have he : fndE fr.length pg pa w kind = alwE pg ((pa / 64 : Nat) : Int) kind := by unfold fndE; rw [if_pos ha, if_pos (by omega), if_neg c9]
          rw [fndV, if_neg (by rw [he]; exact c9), he]; rfl
        · intro c9
          have hz : alwE pg ((pa / 64 : Nat) : Int) kind = 0 := by simpa using c9
          refine x_skip (n_then (x_seq (x_region (s_val rfl (v_move rfl) (s_val rfl (v_nilCheck rfl) ?_)))))
          refine s_val rfl (v_fieldAddr rfl Tryz.underlying101 rfl Tryz.sizeOf72 rfl (by first | exact Nat.zero_add _ | rfl)) ?_
          refine s_val rfl (v_load Tryz.isAgg72 rfl (cell_own rfl)) ?_
          refine s_val rfl (v_move rfl) (s_do rfl (d_call1 Tryz.call19 rfl (gmGet_spec W0 _ pm pg h ((pa / 64 : Nat) : Int))) ?_)
          rintro _ B_ ⟨rfl, hB_⟩
          obtain rfl := hB_.symm
          refine s_val rfl (v_move rfl) (s_val rfl (v_extract rfl rfl) (s_val rfl (v_extract rfl rfl) (s_do rfl (d_allocA Tryz.zeroValue70) ?_)))
          rintro _ _ ⟨b2, rfl, rfl⟩
          refine s_do0 (d_storeAll Tryz.sizeOf70 rfl rfl rfl rfl rfl) ?_
          rintro _ _ rfl
          refine s_val rfl (v_assign rfl) (x_nil (n_then (x_seq (x_seq ?_))))
          refine x_draw [(b2, 0, _), (pv, 0, _)] 8 mixed rfl (sc_own (sc_own sc_end)) (fun hS => ?_)
          refine d_take 0 rfl rfl (by kernel_rfl) (by kernel_rfl) (by kernel_rfl) rfl hS (v_fieldAddr rfl Tryz.underlying70 rfl Tryz.sizeOf3 rfl (by first | exact Nat.zero_add _ | rfl)) ?_
          refine d_take 1 rfl rfl (by kernel_rfl) (by kernel_rfl) (by kernel_rfl) rfl hS (v_load Tryz.isAgg3 rfl (by first | exact cell_sc0 (k := 0) rfl rfl | exact cell_sc0 (k := 1) rfl rfl)) ?_
          refine d_take 2 rfl rfl (by kernel_rfl) (by kernel_rfl) (by kernel_rfl) rfl hS (v_move rfl) ?_
          refine d_take 3 rfl rfl (by kernel_rfl) (by kernel_rfl) (by kernel_rfl) rfl hS (v_nilCheck rfl) ?_
          refine d_take 4 rfl rfl (by kernel_rfl) (by kernel_rfl) (by kernel_rfl) rfl hS (v_fieldAddr rfl Tryz.underlying101 rfl Tryz.sizeOf47 rfl (by first | exact Nat.zero_add _ | rfl)) ?_
          refine d_take 5 rfl rfl (by kernel_rfl) (by kernel_rfl) (by kernel_rfl) rfl hS (v_load Tryz.isAgg47 rfl (by first | exact cell_sc0 (k := 0) rfl rfl | exact cell_sc0 (k := 1) rfl rfl)) ?_
          refine d_one 6 (by kernel_rfl) rfl rfl (d_call1 Tryz.call59 rfl (frLen_spec W0 _ ps fr)) rfl ?_; clear hS
          rintro _ B_ ⟨rfl, hB_⟩
          obtain rfl := hB_.symm
          refine ⟨(sc_own (sc_own sc_end)), fun hS => ?_⟩
          refine d_take 7 rfl rfl (by kernel_rfl) (by kernel_rfl) (by kernel_rfl) rfl hS (v_geq rfl rfl) ?_
          refine d_done (by kernel_rfl) ?_; clear hS
          refine n_then ?_
          refine x_if rfl ?_ ?_
          · intro c12
            refine x_seq (x_region (s_val rfl (v_build Tryz.underlying54 Tryz.zeroValue54 (sized_cons Tryz.sizeOf3 (sized_cons Tryz.sizeOf3 (sized_cons Tryz.sizeOf3 (sized_cons Tryz.sizeOf4 sized_nil)))) fil_nil) ?_))
            refine s_do0 (d_storeAll Tryz.sizeOf54 rfl rfl rfl rfl rfl) ?_
            rintro _ _ rfl
            refine s_val rfl (v_assign rfl) (x_nil (n_then (x_ret (r_then (x_done (.inl rfl) (.cons (r_all Tryz.isAgg54 Tryz.sizeOf54 rfl rfl) (.cons (r_tmp rfl) .nil)) ?_)))))
            refine ⟨_, ⟨?_, rfl⟩, inferInstance⟩
            have he : fndE fr.length pg pa w kind = 7 := by unfold fndE; rw [if_pos ha, if_pos (by omega), if_pos hz, if_neg (by omega)]
            simp [pack, fndV, he]
          · intro c12
            refine x_skip (n_then (x_seq (x_region (s_val rfl (v_move rfl) ?_))))
            refine s_val rfl (v_fieldAddr rfl Tryz.underlying70 rfl Tryz.sizeOf3 rfl (by first | exact Nat.zero_add _ | rfl)) ?_
            refine s_val rfl (v_load Tryz.isAgg3 rfl (cell_own rfl)) ?_
            refine s_val rfl (v_move rfl) ?_
            refine s_val rfl (v_rem rfl rfl (by decide) (tmodN pa 64)) ?_
            refine s_val rfl (v_conv Tryz.underlying31 Tryz.underlying3 rfl (w64 (by omega))) ?_
            refine s_val rfl (v_build Tryz.underlying54 Tryz.zeroValue54 (sized_cons Tryz.sizeOf3 (sized_cons Tryz.sizeOf3 (sized_cons Tryz.sizeOf3 (sized_cons Tryz.sizeOf4 sized_nil)))) (fil_scal rfl Tryz.sizeOf3 rfl rfl (Nat.le_of_ble_eq_true rfl) SetL.eq (fil_scal rfl Tryz.sizeOf3 rfl rfl (Nat.le_of_ble_eq_true rfl) SetL.eq (fil_scal rfl Tryz.sizeOf3 rfl rfl (Nat.le_of_ble_eq_true rfl) SetL.eq fil_nil)))) ?_
            refine s_do0 (d_storeAll Tryz.sizeOf54 rfl rfl rfl rfl rfl) ?_
            rintro _ _ rfl
            refine s_val rfl (v_assign rfl) (x_nil (n_then (x_ret (x_done (.inl rfl) (.cons (r_all Tryz.isAgg54 Tryz.sizeOf54 rfl rfl) (.cons (r_tmp rfl) .nil)) ?_))))
            refine ⟨_, ⟨?_, rfl⟩, inferInstance⟩
            have he : fndE fr.length pg pa w kind = 0 := by unfold fndE; rw [if_pos ha, if_pos (by omega), if_pos hz, if_pos (by omega)]
            simp [pack, fndV, he]
end Go.Proofs.YtllkdnadmmjehaaGreatDoor
namespace Go.Proofs.YtllkdnadmmjehaaGreatDoor
open Go.RowKit
set_option linter.unusedSimpArgs false
set_option linter.unusedVariables false
set_option maxRecDepth 20000
theorem fnd_ok {n : Nat} {pg : List Pl} {pa : Nat} {w kind : Int} (h : fndE n pg pa w kind = 0) : pa < 768 ∧ (gGot pg ((pa / 64 : Nat) : Int)).1 < n ∧ fndV n pg pa w kind = [.int .i64 (pa / 64 : Nat), .int .i64 (gGot pg ((pa / 64 : Nat) : Int)).1, .int .i64 (pa % 64 : Nat), .bool false] := by
  refine ⟨?_, ?_, by rw [fndV, if_pos h]⟩
  · unfold fndE at h; split at h
    · split at h
      · assumption
      · omega
    · omega
  · unfold fndE at h; split at h
    · split at h
      · split at h
        · split at h
          · assumption
          · omega
        · contradiction
      · omega
    · omega
def vsvF (fr : List Frm) (pg : List Pl) (pa : Nat) (w : Int) (x : Nat) : List Frm := if fndE fr.length pg pa w 2 = 0 then svF fr (gGot pg ((pa / 64 : Nat) : Int)).1 ((pa % 64 : Nat) : Int) w x else fr
def vsvD (fr : List Frm) (pg : List Pl) (pa : Nat) (w : Int) (d : Nat) : Nat := if fndE fr.length pg pa w 2 = 0 then d ||| 2 ^ (pa / 64) else d
theorem shl_page {n : Nat} (h : n < 12) : bShl .u32 1 (n : Int) = ((2 ^ n : Nat) : Int) := by
  have : ∀ n : Nat, n < 12 → bShl .u32 1 (n : Int) = ((2 ^ n : Nat) : Int) := by decide
  exact this n h
theorem page_lt {n : Nat} (h : n < 12) : 2 ^ n < 4096 := by
  have : ∀ n : Nat, n < 12 → 2 ^ n < 4096 := by decide
  exact this n h
theorem viSave_spec (W0 : World) (R : List HP) (pv ps pm d : Nat) (fr : List Frm) (pg : List Pl) (h : Pgs pg) (hF : Frs fr) (hd : d < 4096) (pa : Nat) (hpa : pa < 4294967296) (w : Int) (x : Nat) (hx : x < 4294967296) :
    Spec Tryz.prog W0 28 [.pointer (some ⟨pv, 0, none⟩), .int .u32 pa, .int .i64 w, .int .u32 x] (pt pv (viO ps pm d) :: stoH ps fr :: pt pm (gmO pg) :: R)
      (fun v B => v = .int .i64 (fndE fr.length pg pa w 2) ∧ B = pt pv (viO ps pm (vsvD fr pg pa w d)) :: stoH ps (vsvF fr pg pa w x) :: pt pm (gmO pg) :: R) := by
  by_cases hz : fndE fr.length pg pa w 2 = 0
  · obtain ⟨h1, h2, hv⟩ := fnd_ok hz
    have hp := page_lt (n := pa / 64) (by omega)
    rw [vsvD, if_pos hz, vsvF, if_pos hz]
    refine spec_body Tryz.func28 Tryz.ntmps28 rfl rfl ?_
    refine x_seq (x_region (s_val rfl (v_assign rfl) (x_nil (n_then (x_seq (x_region (s_val rfl (v_move rfl) (s_val rfl (v_move rfl) (s_val rfl (v_move rfl) (s_do rfl (d_call3 Tryz.call60 rfl (viFind_spec W0 _ pv ps pm d fr pg h pa hpa w 2)) ?_))))))))))
    rintro _ B_ ⟨rfl, hB_⟩
    obtain rfl := hB_.symm
    rw [hv, hz]
    refine s_val rfl (v_move rfl) (s_val rfl (v_extract rfl rfl) (s_val rfl (v_extract rfl rfl) (s_do rfl (d_allocA Tryz.zeroValue54) ?_)))
    rintro _ _ ⟨b1, rfl, rfl⟩
    refine s_do0 (d_storeAll Tryz.sizeOf54 rfl rfl rfl rfl rfl) ?_
    rintro _ _ rfl
    refine s_val rfl (v_assign rfl) (x_nil (n_then (x_seq (x_seq (x_region (s_val rfl (v_move rfl) (s_val rfl (v_neq rfl rfl) (x_nil (n_then ?_)))))))))
    refine x_if rfl ?_ ?_
    · intro c2
      exact absurd rfl c2
    · intro c2
      refine x_skip (n_then (x_seq ?_))
      refine x_draw [(pv, 0, _), (b1, 0, _)] 11 mixed rfl (sc_own (sc_own sc_end)) (fun hS => ?_)
      refine d_take 0 rfl rfl (by kernel_rfl) (by kernel_rfl) (by kernel_rfl) rfl hS (v_move rfl) ?_
      refine d_take 1 rfl rfl (by kernel_rfl) (by kernel_rfl) (by kernel_rfl) rfl hS (v_nilCheck rfl) ?_
      refine d_take 2 rfl rfl (by kernel_rfl) (by kernel_rfl) (by kernel_rfl) rfl hS (v_fieldAddr rfl Tryz.underlying101 rfl Tryz.sizeOf47 rfl (by first | exact Nat.zero_add _ | rfl)) ?_
      refine d_take 3 rfl rfl (by kernel_rfl) (by kernel_rfl) (by kernel_rfl) rfl hS (v_load Tryz.isAgg47 rfl (by first | exact cell_sc0 (k := 0) rfl rfl | exact cell_sc0 (k := 1) rfl rfl)) ?_
      refine d_take 4 rfl rfl (by kernel_rfl) (by kernel_rfl) (by kernel_rfl) rfl hS (v_fieldAddr rfl Tryz.underlying54 rfl Tryz.sizeOf3 rfl (by first | exact Nat.zero_add _ | rfl)) ?_
      refine d_take 5 rfl rfl (by kernel_rfl) (by kernel_rfl) (by kernel_rfl) rfl hS (v_load Tryz.isAgg3 rfl (by first | exact cell_sc0 (k := 0) rfl rfl | exact cell_sc0 (k := 1) rfl rfl)) ?_
      refine d_take 6 rfl rfl (by kernel_rfl) (by kernel_rfl) (by kernel_rfl) rfl hS (v_fieldAddr rfl Tryz.underlying54 rfl Tryz.sizeOf3 rfl (by first | exact Nat.zero_add _ | rfl)) ?_
      refine d_take 7 rfl rfl (by kernel_rfl) (by kernel_rfl) (by kernel_rfl) rfl hS (v_load Tryz.isAgg3 rfl (by first | exact cell_sc0 (k := 0) rfl rfl | exact cell_sc0 (k := 1) rfl rfl)) ?_
      refine d_take 8 rfl rfl (by kernel_rfl) (by kernel_rfl) (by kernel_rfl) rfl hS (v_move rfl) ?_
      refine d_take 9 rfl rfl (by kernel_rfl) (by kernel_rfl) (by kernel_rfl) rfl hS (v_move rfl) ?_
      refine d_one 10 (by kernel_rfl) rfl rfl (d_call1 Tryz.call33 rfl (frSave_spec W0 _ ps fr _ _ w x hx hF)) rfl ?_; clear hS
      rintro _ B_ ⟨rfl, hB_⟩
      obtain rfl := hB_.symm
      refine ⟨(sc_own (sc_own sc_end)), fun hS => ?_⟩
      refine d_done (by kernel_rfl) ?_; clear hS
      refine n_then (x_seq ?_)
      refine x_draw [(b1, 0, _)] 11 mixed rfl (sc_own sc_end) (fun hS => ?_)
      refine d_take 0 rfl rfl (by kernel_rfl) (by kernel_rfl) (by kernel_rfl) rfl hS (v_move rfl) ?_
      refine d_take 1 rfl rfl (by kernel_rfl) (by kernel_rfl) (by kernel_rfl) rfl hS (v_nilCheck rfl) ?_
      refine d_take 2 rfl rfl (by kernel_rfl) (by kernel_rfl) (by kernel_rfl) rfl hS (v_fieldAddr rfl Tryz.underlying101 rfl Tryz.sizeOf31 rfl (by first | exact Nat.zero_add _ | rfl)) ?_
      refine d_take 4 rfl rfl (by kernel_rfl) (by kernel_rfl) (by kernel_rfl) rfl hS (v_fieldAddr rfl Tryz.underlying54 rfl Tryz.sizeOf3 rfl (by first | exact Nat.zero_add _ | rfl)) ?_
      refine d_take 5 rfl rfl (by kernel_rfl) (by kernel_rfl) (by kernel_rfl) rfl hS (v_load Tryz.isAgg3 rfl (cell_sc0 (k := 0) rfl rfl)) ?_
      refine d_take 6 rfl rfl (by kernel_rfl) (by kernel_rfl) (by kernel_rfl) rfl hS (v_shl rfl rfl (by omega) (shl_page (by omega))) ?_
      refine d_one 3 (by kernel_rfl) rfl rfl (d_val (v_load Tryz.isAgg31 rfl (cell_own rfl))) rfl ?_; clear hS
      rintro _ _ ⟨rfl, rfl⟩
      refine ⟨(sc_own sc_end), fun hS => ?_⟩
      refine d_take 7 rfl rfl (by kernel_rfl) (by kernel_rfl) (by kernel_rfl) rfl hS (v_or rfl rfl (bOr_u32 (by omega) (by omega))) ?_
      refine d_take 8 rfl rfl (by kernel_rfl) (by kernel_rfl) (by kernel_rfl) rfl hS (v_nilCheck rfl) ?_
      refine d_take 9 rfl rfl (by kernel_rfl) (by kernel_rfl) (by kernel_rfl) rfl hS (v_fieldAddr rfl Tryz.underlying101 rfl Tryz.sizeOf31 rfl (by first | exact Nat.zero_add _ | rfl)) ?_
      refine d_one 10 (by kernel_rfl) rfl rfl (d_store Tryz.sizeOf31 rfl rfl rfl (Nat.le_of_ble_eq_true rfl) SetL.eq) rfl ?_; clear hS
      rintro _ _ rfl
      refine ⟨(sc_own sc_end), fun hS => ?_⟩
      refine d_done (by kernel_rfl) ?_; clear hS
      refine n_then (x_seq (x_region (s_val rfl (v_assign rfl) (x_nil (n_then (x_ret (x_done (.inl rfl) (.cons (r_tmp rfl) .nil) ?_)))))))
      exact ⟨_, ⟨rfl, rfl⟩, inferInstance⟩
  · rw [vsvD, if_neg hz, vsvF, if_neg hz]
    refine spec_body Tryz.func28 Tryz.ntmps28 rfl rfl ?_
    refine x_seq (x_region (s_val rfl (v_assign rfl) (x_nil (n_then (x_seq (x_region (s_val rfl (v_move rfl) (s_val rfl (v_move rfl) (s_val rfl (v_move rfl) (s_do rfl (d_call3 Tryz.call60 rfl (viFind_spec W0 _ pv ps pm d fr pg h pa hpa w 2)) ?_))))))))))
    rintro _ B_ ⟨rfl, hB_⟩
    obtain rfl := hB_.symm
    rw [fndV, if_neg hz]
    refine s_val rfl (v_move rfl) (s_val rfl (v_extract rfl rfl) (s_val rfl (v_extract rfl rfl) (s_do rfl (d_allocA Tryz.zeroValue54) ?_)))
    rintro _ _ ⟨b1, rfl, rfl⟩
    refine s_do0 (d_storeAll Tryz.sizeOf54 rfl rfl rfl rfl rfl) ?_
    rintro _ _ rfl
    refine s_val rfl (v_assign rfl) (x_nil (n_then (x_seq (x_seq (x_region (s_val rfl (v_move rfl) (s_val rfl (v_neq rfl rfl) (x_nil (n_then ?_)))))))))
    refine x_if rfl ?_ ?_
    · intro c2
      refine x_seq (x_region (s_val rfl (v_move rfl) (s_val rfl (v_assign rfl) (x_nil (n_then (x_ret (r_then (x_done (.inl rfl) (.cons (r_tmp rfl) .nil) ?_))))))))
      exact ⟨_, ⟨rfl, rfl⟩, inferInstance⟩
    · intro c2
      exact absurd hz c2
end Go.Proofs.YtllkdnadmmjehaaGreatDoor
namespace Go.Proofs.YtllkdnadmmjehaaGreatDoor
open Go.RowKit
set_option linter.unusedSimpArgs false
set_option linter.unusedVariables false
set_option maxRecDepth 20000
theorem viNew_spec (W0 : World) (R : List HP) (ps pm : Nat) (fr : List Frm) (pg : List Pl) (h : Pgs pg) (h0 : 0 < fr.length) :
    Spec Tryz.prog W0 27 [.pointer (some ⟨ps, 0, none⟩), .pointer (some ⟨pm, 0, none⟩)] (stoH ps fr :: pt pm (gmO pg) :: R)
      (fun v B => ∃ b, v = .tuple #[.pointer (some ⟨b, 0, none⟩), .int .i64 0] ∧ B = pt b (viO ps pm 0) :: stoH ps fr :: pt pm (gmO pg) :: R) := by
  refine spec_body Tryz.func27 Tryz.ntmps27 rfl rfl ?_
  refine x_seq (x_region (s_val rfl (v_assign rfl) (s_val rfl (v_assign rfl) (x_nil (n_then (x_seq (x_seq (x_region (s_val rfl (v_move rfl) (s_do rfl (d_call1 Tryz.call59 rfl (frLen_spec W0 _ ps fr)) ?_))))))))))
  rintro _ B_ ⟨rfl, hB_⟩
  obtain rfl := hB_.symm
  refine s_val rfl (v_eql rfl rfl) (s_val rfl (v_move rfl) ?_)
  refine s_or rfl rfl rfl ?_ ?_
  · intro g1_4
    omega
  · intro g1_4
    refine s_val rfl (v_move rfl) (s_yes rfl rfl (s_do rfl (d_call1 Tryz.call37 rfl (gmDrop_spec W0 _ pm pg h)) ?_))
    rintro _ B_ ⟨rfl, hB_⟩
    obtain rfl := hB_.symm
    refine s_yes rfl rfl (s_val rfl (v_eql rfl rfl) (s_val rfl (v_pick_f rfl rfl) (x_nil (n_then ?_))))
    refine x_if rfl ?_ ?_
    · intro c1
      exact absurd c1 (by decide)
    · intro c1
      refine x_skip (n_then (x_seq (x_region (s_val rfl (v_move rfl) (s_val rfl (v_move rfl) (s_val rfl (v_build Tryz.underlying101 Tryz.zeroValue101 (sized_cons Tryz.sizeOf47 (sized_cons Tryz.sizeOf72 (sized_cons Tryz.sizeOf31 sized_nil))) (fil_scal rfl Tryz.sizeOf47 rfl rfl (Nat.le_of_ble_eq_true rfl) SetL.eq (fil_scal rfl Tryz.sizeOf72 rfl rfl (Nat.le_of_ble_eq_true rfl) SetL.eq fil_nil))) ?_))))))
      refine s_do rfl (d_boxA rfl) ?_
      rintro _ _ ⟨b1, rfl, rfl⟩
      refine s_val rfl (v_assign rfl) (s_val rfl (v_assign rfl) (x_nil (n_then (x_ret (x_done (.inl rfl) (.cons (r_tmp rfl) (.cons (r_tmp rfl) .nil)) ?_)))))
      exact ⟨_, ⟨b1, rfl, rfl⟩, inferInstance⟩
theorem viMap_spec (W0 : World) (R : List HP) (pv ps pm d : Nat) : Spec Tryz.prog W0 18 [.pointer (some ⟨pv, 0, none⟩)] (pt pv (viO ps pm d) :: R) (fun v B => v = .pointer (some ⟨pm, 0, none⟩) ∧ B = pt pv (viO ps pm d) :: R) := by
  refine spec_body Tryz.func18 Tryz.ntmps18 rfl rfl ?_
  refine x_seq (x_region (s_val rfl (v_assign rfl) (x_nil (n_then (x_seq (x_seq (x_region (s_val rfl (v_move rfl) (s_do rfl (d_call1 Tryz.call35 rfl (viNone_spec W0 _ pv ps pm d)) ?_)))))))))
  rintro _ B_ ⟨rfl, hB_⟩
  obtain rfl := hB_.symm
  refine x_nil (n_then ?_)
  refine x_if rfl ?_ ?_
  · intro c1
    exact absurd c1 (by decide)
  · intro c1
    refine x_skip (n_then (x_seq (x_region (s_val rfl (v_move rfl) (s_val rfl (v_nilCheck rfl) ?_)))))
    refine s_val rfl (v_fieldAddr rfl Tryz.underlying101 rfl Tryz.sizeOf72 rfl (by first | exact Nat.zero_add _ | rfl)) ?_
    refine s_val rfl (v_load Tryz.isAgg72 rfl (cell_own rfl)) ?_
    refine s_val rfl (v_assign rfl) (x_nil (n_then (x_ret (x_done (.inl rfl) (.cons (r_tmp rfl) .nil) ?_))))
    exact ⟨_, ⟨rfl, rfl⟩, inferInstance⟩
theorem viStore_spec (W0 : World) (R : List HP) (pv ps pm d : Nat) : Spec Tryz.prog W0 9 [.pointer (some ⟨pv, 0, none⟩)] (pt pv (viO ps pm d) :: R) (fun v B => v = .pointer (some ⟨ps, 0, none⟩) ∧ B = pt pv (viO ps pm d) :: R) := by
  refine spec_body Tryz.func9 Tryz.ntmps9 rfl rfl ?_
  refine x_seq (x_region (s_val rfl (v_assign rfl) (x_nil (n_then (x_seq (x_seq (x_region (s_val rfl (v_move rfl) (s_do rfl (d_call1 Tryz.call35 rfl (viNone_spec W0 _ pv ps pm d)) ?_)))))))))
  rintro _ B_ ⟨rfl, hB_⟩
  obtain rfl := hB_.symm
  refine x_nil (n_then ?_)
  refine x_if rfl ?_ ?_
  · intro c1
    exact absurd c1 (by decide)
  · intro c1
    refine x_skip (n_then (x_seq (x_region (s_val rfl (v_move rfl) (s_val rfl (v_nilCheck rfl) ?_)))))
    refine s_val rfl (v_fieldAddr rfl Tryz.underlying101 rfl Tryz.sizeOf47 rfl (by first | exact Nat.zero_add _ | rfl)) ?_
    refine s_val rfl (v_load Tryz.isAgg47 rfl (cell_own rfl)) ?_
    refine s_val rfl (v_assign rfl) (x_nil (n_then (x_ret (x_done (.inl rfl) (.cons (r_tmp rfl) .nil) ?_))))
    exact ⟨_, ⟨rfl, rfl⟩, inferInstance⟩
def frmB (len : Nat) (pg : List Pl) (n : Int) : Bool := thereB pg n && decide (n < 8) && decide ((gGot pg n).1 < len)
theorem viFrame_spec (W0 : World) (R : List HP) (pv ps pm d : Nat) (fr : List Frm) (pg : List Pl) (h : Pgs pg) (n : Int) :
    Spec Tryz.prog W0 183 [.pointer (some ⟨pv, 0, none⟩), .int .i64 n] (pt pv (viO ps pm d) :: stoH ps fr :: pt pm (gmO pg) :: R)
      (fun v B => v = .tuple #[.int .i64 (gGot pg n).1, .bool (frmB fr.length pg n)] ∧ B = pt pv (viO ps pm d) :: stoH ps fr :: pt pm (gmO pg) :: R) := by
  refine spec_body Tryz.func183 Tryz.ntmps183 rfl rfl ?_
  refine x_seq (x_region (s_val rfl (v_assign rfl) (s_val rfl (v_assign rfl) (x_nil (n_then (x_seq (x_region (s_val rfl (v_move rfl) (s_val rfl (v_nilCheck rfl) ?_)))))))))
  refine s_val rfl (v_fieldAddr rfl Tryz.underlying101 rfl Tryz.sizeOf72 rfl (by first | exact Nat.zero_add _ | rfl)) ?_
  refine s_val rfl (v_load Tryz.isAgg72 rfl (cell_own rfl)) ?_
  refine s_val rfl (v_move rfl) (s_do rfl (d_call1 Tryz.call19 rfl (gmGet_spec W0 _ pm pg h n)) ?_)
  rintro _ B_ ⟨rfl, hB_⟩
  obtain rfl := hB_.symm
  refine s_val rfl (v_move rfl) (s_val rfl (v_extract rfl rfl) (s_val rfl (v_extract rfl rfl) (s_do rfl (d_allocA Tryz.zeroValue70) ?_)))
  rintro _ _ ⟨b1, rfl, rfl⟩
  refine s_do0 (d_storeAll Tryz.sizeOf70 rfl rfl rfl rfl rfl) ?_
  rintro _ _ rfl
  refine s_val rfl (v_assign rfl) (x_nil (n_then (x_seq ?_)))
  refine x_draw [(pv, 0, _), (b1, 0, _)] 19 mixed rfl (sc_own (sc_own sc_end)) (fun hS => ?_)
  refine d_take 0 rfl rfl (by kernel_rfl) (by kernel_rfl) (by kernel_rfl) rfl hS (v_fieldAddr rfl Tryz.underlying70 rfl Tryz.sizeOf3 rfl (by first | exact Nat.zero_add _ | rfl)) ?_
  refine d_take 1 rfl rfl (by kernel_rfl) (by kernel_rfl) (by kernel_rfl) rfl hS (v_load Tryz.isAgg3 rfl (by first | exact cell_sc0 (k := 0) rfl rfl | exact cell_sc0 (k := 1) rfl rfl)) ?_
  refine d_take 2 rfl rfl (by kernel_rfl) (by kernel_rfl) (by kernel_rfl) rfl hS (v_move rfl) ?_
  refine d_take 3 rfl rfl (by kernel_rfl) (by kernel_rfl) (by kernel_rfl) rfl hS (v_move rfl) ?_
  refine x_split (t := 20) rfl ?_ ?_
  · intro g2_4
    refine d_take 4 rfl rfl (by kernel_rfl) (by kernel_rfl) (by kernel_rfl) rfl hS (v_move rfl) ?_
    refine d_take 5 rfl rfl (by kernel_rfl) (by kernel_rfl) (by kernel_rfl) rfl hS (v_lss rfl rfl) ?_
    refine d_take 6 rfl rfl (by kernel_rfl) (by kernel_rfl) (by kernel_rfl) rfl hS (v_pick_t rfl rfl) ?_
    refine d_take 7 rfl rfl (by kernel_rfl) (by kernel_rfl) (by kernel_rfl) rfl hS (v_move rfl) ?_
    refine x_split (t := 24) rfl ?_ ?_
    · intro g2_8
      refine d_take 8 rfl rfl (by kernel_rfl) (by kernel_rfl) (by kernel_rfl) rfl hS (v_fieldAddr rfl Tryz.underlying70 rfl Tryz.sizeOf3 rfl (by first | exact Nat.zero_add _ | rfl)) ?_
      refine d_take 9 rfl rfl (by kernel_rfl) (by kernel_rfl) (by kernel_rfl) rfl hS (v_load Tryz.isAgg3 rfl (by first | exact cell_sc0 (k := 0) rfl rfl | exact cell_sc0 (k := 1) rfl rfl)) ?_
      refine d_take 10 rfl rfl (by kernel_rfl) (by kernel_rfl) (by kernel_rfl) rfl hS (v_move rfl) ?_
      refine d_take 11 rfl rfl (by kernel_rfl) (by kernel_rfl) (by kernel_rfl) rfl hS (v_nilCheck rfl) ?_
      refine d_take 12 rfl rfl (by kernel_rfl) (by kernel_rfl) (by kernel_rfl) rfl hS (v_fieldAddr rfl Tryz.underlying101 rfl Tryz.sizeOf47 rfl (by first | exact Nat.zero_add _ | rfl)) ?_
      refine d_take 13 rfl rfl (by kernel_rfl) (by kernel_rfl) (by kernel_rfl) rfl hS (v_load Tryz.isAgg47 rfl (by first | exact cell_sc0 (k := 0) rfl rfl | exact cell_sc0 (k := 1) rfl rfl)) ?_
      refine d_one 14 (by kernel_rfl) rfl rfl (d_call1 Tryz.call59 rfl (frLen_spec W0 _ ps fr)) rfl ?_; clear hS
      rintro _ B_ ⟨rfl, hB_⟩
      obtain rfl := hB_.symm
      refine ⟨(sc_own (sc_own sc_end)), fun hS => ?_⟩
      refine d_take 15 rfl rfl (by kernel_rfl) (by kernel_rfl) (by kernel_rfl) rfl hS (v_lss rfl rfl) ?_
      refine d_take 16 rfl rfl (by kernel_rfl) (by kernel_rfl) (by kernel_rfl) rfl hS (v_pick_t rfl rfl) ?_
      refine d_take 17 rfl rfl (by kernel_rfl) (by kernel_rfl) (by kernel_rfl) rfl hS (v_assign rfl) ?_
      refine d_take 18 rfl rfl (by kernel_rfl) (by kernel_rfl) (by kernel_rfl) rfl hS (v_assign rfl) ?_
      refine d_done (by kernel_rfl) ?_; clear hS
      refine n_then (x_ret (x_done (.inl rfl) (.cons (r_tmp rfl) (.cons (r_tmp rfl) .nil)) ?_))
      refine ⟨_, ⟨?_, rfl⟩, inferInstance⟩
      simp_all [pack, frmB]; try omega
    · intro g2_8
      refine d_skip 8 rfl rfl (by kernel_rfl) (by kernel_rfl) (by kernel_rfl) rfl hS ?_
      refine d_skip 9 rfl rfl (by kernel_rfl) (by kernel_rfl) (by kernel_rfl) rfl hS ?_
      refine d_skip 10 rfl rfl (by kernel_rfl) (by kernel_rfl) (by kernel_rfl) rfl hS ?_
      refine d_skip 11 rfl rfl (by kernel_rfl) (by kernel_rfl) (by kernel_rfl) rfl hS ?_
      refine d_skip 12 rfl rfl (by kernel_rfl) (by kernel_rfl) (by kernel_rfl) rfl hS ?_
      refine d_skip 13 rfl rfl (by kernel_rfl) (by kernel_rfl) (by kernel_rfl) rfl hS ?_
      refine d_skip 14 rfl rfl (by kernel_rfl) (by kernel_rfl) (by kernel_rfl) rfl hS ?_
      refine d_skip 15 rfl rfl (by kernel_rfl) (by kernel_rfl) (by kernel_rfl) rfl hS ?_
      refine d_take 16 rfl rfl (by kernel_rfl) (by kernel_rfl) (by kernel_rfl) rfl hS (v_pick_f rfl rfl) ?_
      refine d_take 17 rfl rfl (by kernel_rfl) (by kernel_rfl) (by kernel_rfl) rfl hS (v_assign rfl) ?_
      refine d_take 18 rfl rfl (by kernel_rfl) (by kernel_rfl) (by kernel_rfl) rfl hS (v_assign rfl) ?_
      refine d_done (by kernel_rfl) ?_; clear hS
      refine n_then (x_ret (x_done (.inl rfl) (.cons (r_tmp rfl) (.cons (r_tmp rfl) .nil)) ?_))
      refine ⟨_, ⟨?_, rfl⟩, inferInstance⟩
      simp_all [pack, frmB]; try omega
  · intro g2_4
    refine d_skip 4 rfl rfl (by kernel_rfl) (by kernel_rfl) (by kernel_rfl) rfl hS ?_
    refine d_skip 5 rfl rfl (by kernel_rfl) (by kernel_rfl) (by kernel_rfl) rfl hS ?_
    refine d_take 6 rfl rfl (by kernel_rfl) (by kernel_rfl) (by kernel_rfl) rfl hS (v_pick_f rfl rfl) ?_
    refine d_take 7 rfl rfl (by kernel_rfl) (by kernel_rfl) (by kernel_rfl) rfl hS (v_move rfl) ?_
    refine d_skip 8 rfl rfl (by kernel_rfl) (by kernel_rfl) (by kernel_rfl) rfl hS ?_
    refine d_skip 9 rfl rfl (by kernel_rfl) (by kernel_rfl) (by kernel_rfl) rfl hS ?_
    refine d_skip 10 rfl rfl (by kernel_rfl) (by kernel_rfl) (by kernel_rfl) rfl hS ?_
    refine d_skip 11 rfl rfl (by kernel_rfl) (by kernel_rfl) (by kernel_rfl) rfl hS ?_
    refine d_skip 12 rfl rfl (by kernel_rfl) (by kernel_rfl) (by kernel_rfl) rfl hS ?_
    refine d_skip 13 rfl rfl (by kernel_rfl) (by kernel_rfl) (by kernel_rfl) rfl hS ?_
    refine d_skip 14 rfl rfl (by kernel_rfl) (by kernel_rfl) (by kernel_rfl) rfl hS ?_
    refine d_skip 15 rfl rfl (by kernel_rfl) (by kernel_rfl) (by kernel_rfl) rfl hS ?_
    refine d_take 16 rfl rfl (by kernel_rfl) (by kernel_rfl) (by kernel_rfl) rfl hS (v_pick_f rfl rfl) ?_
    refine d_take 17 rfl rfl (by kernel_rfl) (by kernel_rfl) (by kernel_rfl) rfl hS (v_assign rfl) ?_
    refine d_take 18 rfl rfl (by kernel_rfl) (by kernel_rfl) (by kernel_rfl) rfl hS (v_assign rfl) ?_
    refine d_done (by kernel_rfl) ?_; clear hS
    refine n_then (x_ret (x_done (.inl rfl) (.cons (r_tmp rfl) (.cons (r_tmp rfl) .nil)) ?_))
    refine ⟨_, ⟨?_, rfl⟩, inferInstance⟩
    simp_all [pack, frmB]; try omega
end Go.Proofs.YtllkdnadmmjehaaGreatDoor
namespace Go.Proofs.YtllkdnadmmjehaaGreatDoor
open Go.RowKit
set_option linter.unusedSimpArgs false
set_option linter.unusedVariables false
set_option maxRecDepth 20000
def inH (p : Value × Frm) : HP := osl 5 1 p.1 (byV p.2)
def rstoH (qs : Nat) (fr : List Frm) : HP := chk (fun C => ∃ a c, ∃ vs : List Value, vs.length = fr.length ∧ C = pt qs (cob [.slice a fr.length c] 38) :: osl 44 1 (.slice a fr.length c) vs :: (vs.zip fr).map inH)
section
variable {P : Program} {W0 : World} {N : FSz} {K : Act → World → Prop} {e : Env} {A B R R1 R2 : List HP} {qs g n : Nat} {fr : List Frm} {f : FuncId} {args : List Value} {Post : Value → List HP → Prop} {l : List Value}
theorem run_rsto [hk : Tk rstoH qs A fr R] (h : ∀ a c vs, vs.length = fr.length → Run W0 N K e (pt qs (cob [.slice a fr.length c] 38) :: osl 44 1 (.slice a fr.length c) vs :: ((vs.zip fr).map inH ++ R))) : Run W0 N K e A :=
  run_tk (r := rstoH) (b := qs) (run_chk fun C hC => by obtain ⟨a, c, vs, h1, rfl⟩ := hC; exact h a c vs h1)
theorem ent_rsto {a : Option Addr} {c : Nat} {vs : List Value} [h1 : Tk pt qs A (cob [.slice a n c] 38) R1] [h2 : Tk (osl 44 1) (.slice a n c) R1 vs ((vs.zip fr).map inH ++ R2)] (hv : vs.length = fr.length) (hn : n = fr.length) [k : Ent R2 B] : Ent A (rstoH qs fr :: B) := by
  subst hn
  have e1 : A.Perm ((pt qs (cob [.slice a fr.length c] 38) :: osl 44 1 (.slice a fr.length c) vs :: (vs.zip fr).map inH) ++ R2) := h1.perm.trans (h2.perm.cons _)
  have e2 : Ent ((pt qs (cob [.slice a fr.length c] 38) :: osl 44 1 (.slice a fr.length c) vs :: (vs.zip fr).map inH) ++ R2) (rstoH qs fr :: R2) := ent_chk ⟨a, c, vs, hv, rfl⟩
  exact (Ent.ofPerm e1).trans (e2.trans (Ent.cons k))
theorem perm_erase {α : Type} : ∀ (l : List α) (i : Nat) (h : i < l.length), l.Perm (l[i] :: l.eraseIdx i)
  | x :: l, 0, h => by simp
  | x :: l, i + 1, h => by
    simp only [List.getElem_cons_succ, List.eraseIdx_cons_succ]
    exact ((perm_erase l i (by simpa using h)).cons x).trans (List.Perm.swap _ _ _)
theorem perm_set {α : Type} : ∀ (l : List α) (i : Nat) (x : α) (h : i < l.length), (x :: l.eraseIdx i).Perm (l.set i x)
  | y :: l, 0, x, h => by simp
  | y :: l, i + 1, x, h => by
    simp only [List.set_cons_succ, List.eraseIdx_cons_succ]
    exact (List.Perm.swap _ _ _).trans ((perm_set l i x (by simpa using h)).cons y)
theorem run_oslT {E sz : Nat} {v : Value} {xs : List Value} [hk : Tk (osl E sz) v A xs R] (h0 : v = .slice none 0 0 → xs = [] → Run W0 N K e R)
    (h1 : ∀ g n cap sp, v = .slice (some ⟨g, 0, none⟩) n cap → n ≤ cap → cap ≤ maxLen → xs.length = n * sz → (xs ++ sp).length = cap * sz → Run W0 N K e (pt g (cob (xs ++ sp) E) :: R)) : Run W0 N K e A :=
  run_tk (r := osl E sz) (b := v) (run_osl h0 h1)
theorem run_rstoN [hk : Tk rstoH qs A fr R] {i : Nat} (hi : i < fr.length) (h : ∀ a c vs vi, vs.length = fr.length → vs[i]? = some vi →
      Run W0 N K e (pt qs (cob [.slice a fr.length c] 38) :: osl 44 1 (.slice a fr.length c) vs :: osl 5 1 vi (byV (fr.getD i [])) :: (((vs.zip fr).map inH).eraseIdx i ++ R))) : Run W0 N K e A := by
  refine run_rsto (qs := qs) fun a c vs hv => ?_
  have hlen : ((vs.zip fr).map inH).length = fr.length := by simp [hv]
  have hiv : i < vs.length := by omega
  have hg : ((vs.zip fr).map inH)[i]'(by omega) = osl 5 1 vs[i] (byV (fr.getD i [])) := by simp [inH, List.getD, hi]
  have hp := perm_erase ((vs.zip fr).map inH) i (by omega)
  rw [hg] at hp
  exact run_perm (((hp.append_right R).cons _).cons _) (h a c vs vs[i] hv (by simp [hiv]))
theorem ent_rstoN {a : Option Addr} {c i : Nat} {vs : List Value} {vi : Value} {y : Frm} {ys : List Value} {R3 : List HP} [h1 : Tk pt qs A (cob [.slice a n c] 38) R1] [h2 : Tk (osl 44 1) (.slice a n c) R1 (vs.set i vi) R2] [h3 : Tk (osl 5 1) vi R2 ys (((vs.zip fr).map inH).eraseIdx i ++ R3)]
    (hy : ys = byV y) (hv : vs.length = fr.length) (hn : n = fr.length) (hi : i < fr.length) [k : Ent R3 B] : Ent A (rstoH qs (fr.set i y) :: B) := by
  subst hy
  have e1 : A.Perm (pt qs (cob [.slice a n c] 38) :: osl 44 1 (.slice a n c) (vs.set i vi) :: ((((vs.set i vi).zip (fr.set i y)).map inH) ++ R3)) := by
    refine h1.perm.trans ((h2.perm.trans ((h3.perm.trans ?_).cons _)).cons _)
    have hs : ((vs.set i vi).zip (fr.set i y)).map inH = ((vs.zip fr).map inH).set i (inH (vi, y)) := by
      apply List.ext_getElem
      · simp
      · intro j h1 h2
        by_cases e : j = i
        · subst e; simp
        · have e' : ¬ i = j := fun h => e h.symm
          simp [List.getElem_set, e']
    rw [hs]
    have := perm_set ((vs.zip fr).map inH) i (inH (vi, y)) (by simp [hv]; exact hi)
    exact this.append_right R3
  exact (Ent.ofPerm e1).trans (ent_rsto (vs := vs.set i vi) (by simp [hv]) (by simp [hn]))
theorem shut_rsto {c i g2 n2 c2 : Nat} {vs vs' sp sp2 ys : List Value} {y : Frm} {vi : Value} {R3 : List HP} [h1 : Tk pt qs A (cob [.slice (some ⟨g, 0, none⟩) n c] 38) R1] [h2 : Tk pt g R1 (cob (vs' ++ sp) 44) R2] [h3 : Tk pt g2 R2 (cob (ys ++ sp2) 5) R3]
    (hvs : vs' = vs.set i vi) (hvi : vi = .slice (some ⟨g2, 0, none⟩) n2 c2) (hy : ys = byV y) (hv : vs.length = fr.length) (hn : n = fr.length) (hi : i < fr.length) (a1 : n ≤ c) (a2 : c ≤ maxLen) (a3 : (vs' ++ sp).length = c * 1) (b1 : n2 ≤ c2) (b2 : c2 ≤ maxLen) (b3 : ys.length = n2 * 1) (b4 : (ys ++ sp2).length = c2 * 1) [k : Ent R3 (((vs.zip fr).map inH).eraseIdx i ++ B)] : Ent A (rstoH qs (fr.set i y) :: B) := by
  subst hvs
  subst hvi
  have e1 : A.Perm (pt qs (cob [.slice (some ⟨g, 0, none⟩) n c] 38) :: pt g (cob (vs.set i (.slice (some ⟨g2, 0, none⟩) n2 c2) ++ sp) 44) :: pt g2 (cob (ys ++ sp2) 5) :: R3) := h1.perm.trans ((h2.perm.trans (h3.perm.cons _)).cons _)
  have e2 : Ent (pt g2 (cob (ys ++ sp2) 5) :: R3) (osl 5 1 (.slice (some ⟨g2, 0, none⟩) n2 c2) ys :: (((vs.zip fr).map inH).eraseIdx i ++ B)) := ent_osl b1 b2 b3 b4
  have e3 : Ent (pt g (cob (vs.set i (.slice (some ⟨g2, 0, none⟩) n2 c2) ++ sp) 44) :: osl 5 1 (.slice (some ⟨g2, 0, none⟩) n2 c2) ys :: (((vs.zip fr).map inH).eraseIdx i ++ B)) (osl 44 1 (.slice (some ⟨g, 0, none⟩) n c) (vs.set i (.slice (some ⟨g2, 0, none⟩) n2 c2)) :: osl 5 1 (.slice (some ⟨g2, 0, none⟩) n2 c2) ys :: (((vs.zip fr).map inH).eraseIdx i ++ B)) := ent_osl a1 a2 (by simp [hv, hn]) a3
  exact (Ent.ofPerm e1).trans ((Ent.cons ((Ent.cons e2).trans e3)).trans (ent_rstoN (vi := .slice (some ⟨g2, 0, none⟩) n2 c2) hy hv hn hi))
end
theorem set_self {fr : List Frm} {i : Nat} (hi : i < fr.length) : fr.set i (fr.getD i []) = fr := by
  rw [show fr.getD i [] = fr[i] by simp [List.getD, hi]]; exact List.set_getElem_self _
theorem set_selfV {vs : List Value} {i : Nat} {v : Value} (h : vs[i]? = some v) : vs.set i v = vs := by
  have hi : i < vs.length := by
    rcases Nat.lt_or_ge i vs.length with k | k
    · exact k
    · rw [List.getElem?_eq_none k] at h; cases h
  have : vs[i] = v := by simpa [hi] using h
  rw [← this]; exact List.set_getElem_self _
theorem rfIs_spec (W0 : World) (R : List HP) (qs : Nat) (fr : List Frm) (f : Int) :
    Spec Tryz.prog W0 64 [.pointer (some ⟨qs, 0, none⟩), .int .i64 f] (rstoH qs fr :: R) (fun v B => v = .bool (isF fr.length f) ∧ B = rstoH qs fr :: R) := by
  refine spec_body Tryz.func64 Tryz.ntmps64 rfl rfl ?_
  refine x_seq (x_region (s_val rfl (v_assign rfl) (x_nil (n_then (x_seq ?_)))))
  refine run_rsto (qs := qs) fun a c vs hv => ?_
  refine x_region (s_val rfl (v_move rfl) (s_val rfl (v_geq rfl rfl) (s_val rfl (v_move rfl) ?_)))
  refine s_and rfl rfl rfl ?_ ?_
  · intro g1_3
    refine s_val rfl (v_move rfl) (s_yes rfl rfl (s_val rfl (v_move rfl) (s_yes rfl rfl (s_val rfl (v_nilCheck rfl) (s_yes rfl rfl ?_)))))
    refine s_val rfl (v_fieldAddr rfl Tryz.underlying38 rfl Tryz.sizeOf36 rfl (by first | exact Nat.zero_add _ | rfl)) ?_
    refine s_yes rfl rfl (s_val rfl (v_load Tryz.isAgg36 rfl (cell_own rfl)) ?_)
    refine s_yes rfl rfl (s_val rfl (v_len_slice Tryz.underlying36 rfl) (s_yes rfl rfl (s_val rfl (v_lss rfl rfl) (s_val rfl (v_pick_t rfl rfl) (s_val rfl (v_assign rfl) (x_nil (n_then (x_ret (x_done (.inl rfl) (.cons (r_tmp rfl) .nil) ?_)))))))))
    refine ⟨_, ⟨congrArg Value.bool ?_, rfl⟩, ent_rsto hv rfl⟩
    rw [Bool.eq_iff_iff]; simp only [isF, decide_eq_true_eq, Bool.false_eq_true, false_iff]; omega
  · intro g1_3
    refine s_no rfl rfl rfl rfl (s_no rfl rfl rfl rfl (s_no rfl rfl rfl rfl (s_no rfl rfl rfl rfl (s_no rfl rfl rfl rfl (s_no rfl rfl rfl rfl (s_val rfl (v_pick_f rfl rfl) (s_val rfl (v_assign rfl) (x_nil (n_then (x_ret (x_done (.inl rfl) (.cons (r_tmp rfl) .nil) ?_)))))))))))
    refine ⟨_, ⟨congrArg Value.bool ?_, rfl⟩, ent_rsto hv rfl⟩
    rw [Bool.eq_iff_iff]; simp only [isF, decide_eq_true_eq, Bool.false_eq_true, false_iff]; omega
theorem refGetN {W0 : World} {R : List HP} {g off c n : Nat} {l : List Nat} {at_ w : Int} (hl : l.length = n) (hc : Cells (OwnP W0 R) g off (byV l)) (hb : By l) (hn : n ≤ c) (h63 : c < 9223372036854775808) :
    Spec Tryz.prog W0 88 [.slice (some ⟨g, off, none⟩) n c, .int .i64 at_, .int .i64 w] R (fun v B => v = .tuple #[.int .u32 (getN l at_ w : Nat), .int .i64 (getE l at_ w)] ∧ B = R) := by
  subst hl; exact refGet02_spec W0 R g off c l at_ w hc hb hn h63
theorem refPutN_ok {W0 : World} {R : List HP} {g off c n : Nat} {l : List Nat} {i k w : Nat} (hl : l.length = n) (hw : w < 4294967296) (hc : Cells (OwnP W0 R) g off (byV l)) (hi : inB n i k = true) (hn : n ≤ 1000000) :
    Spec Tryz.prog W0 65 [.slice (some ⟨g, off, none⟩) n c, .int .i64 i, .int .i64 k, .int .u32 w] R (fun v B => ∃ a' c', v = putV a' n c' ∧ B = osl 5 1 (.slice a' n c') (byV (putB l i k w)) :: R) := by
  subst hl; exact refPut_ok W0 R g off c l i k w hw hc hi hn
theorem byV_front {x : Frm} {sp : List Value} (h : x.length = 64) : ((byV x ++ sp).drop 0).take 64 = byV x := by
  rw [List.drop_zero, List.take_left' (by rw [byV_len, h])]
theorem rfLoad_spec (W0 : World) (R : List HP) (qs : Nat) (fr : List Frm) (f off w : Int) (hF : Frs fr) :
    Spec Tryz.prog W0 50 [.pointer (some ⟨qs, 0, none⟩), .int .i64 f, .int .i64 off, .int .i64 w] (rstoH qs fr :: R)
      (fun v B => v = .tuple #[.int .u32 (ldN fr f off w : Nat), .int .i64 (ldE fr f off w)] ∧ B = rstoH qs fr :: R) := by
  by_cases hf : isF fr.length f = true
  · obtain ⟨i, rfl, hi⟩ := isF_nat hf
    obtain ⟨hl, hb⟩ := hF.get hi
    refine spec_body Tryz.func50 Tryz.ntmps50 rfl rfl ?_
    refine x_seq (x_region (s_val rfl (v_assign rfl) (s_val rfl (v_assign rfl) (x_nil (n_then (x_seq (x_seq (x_region (s_val rfl (v_move rfl) (s_val rfl (v_move rfl) (s_do rfl (d_call1 Tryz.call64 rfl (rfIs_spec W0 _ qs fr i)) ?_)))))))))))
    rintro _ B_ ⟨rfl, hB_⟩
    obtain rfl := hB_.symm
    refine s_val rfl (v_not rfl) (x_nil (n_then ?_))
    refine x_if rfl ?_ ?_
    · intro c1
      exact absurd c1 (by simp [hf])
    · intro c1
      refine x_skip (n_then (x_seq ?_))
      refine run_rstoN (qs := qs) hi fun a c vs vi hv hvi => ?_
      refine run_oslT (E := 5) (sz := 1) (v := vi) (fun h1 h2 => by have := congrArg List.length h2; rw [byV_len, hl] at this; cases this) fun g2 n2 c2 sp2 k1 k2 k3 k4 k5 => ?_
      obtain rfl : n2 = 64 := by rw [byV_len, hl] at k4; omega
      subst k1
      refine run_oslT (E := 44) (sz := 1) (v := .slice a fr.length c) (fun h1 h2 => by have := (Value.slice.inj h1).2.1; omega) fun g n c' sp h1 h2 h3 h4 h5 => ?_
      cases h1
      refine x_region (s_val rfl (v_move rfl) (s_val rfl (v_nilCheck rfl) ?_))
      refine s_val rfl (v_fieldAddr rfl Tryz.underlying38 rfl Tryz.sizeOf36 rfl (by first | exact Nat.zero_add _ | rfl)) ?_
      refine s_val rfl (v_load Tryz.isAgg36 rfl (cell_own rfl)) ?_
      refine s_val rfl (v_move rfl) ?_
      refine s_val rfl (v_idx Tryz.underlying36 Tryz.sizeOf44 rfl rfl rfl hi (by first | exact Nat.zero_add _ | rfl)) ?_
      refine s_val rfl (v_load Tryz.isAgg44 rfl (cell_own (by rw [Nat.mul_one, List.getElem?_append_left (by omega)]; exact hvi))) ?_
      refine s_val rfl (v_move rfl) (s_val rfl (v_move rfl) ?_)
      refine s_do rfl (d_call Tryz.call88 rfl (refGetN hl (cells_part (byV_front hl) (by rw [byV_len, hl])) hb k2 (maxLen_lt k3))) ?_
      rintro _ B_ ⟨rfl, hB_⟩
      obtain rfl := hB_.symm
      refine s_val rfl (v_extract rfl rfl) (s_val rfl (v_extract rfl rfl) (s_val rfl (v_assign rfl) (s_val rfl (v_assign rfl) (x_nil (n_then (x_ret (x_done (.inl rfl) (.cons (r_tmp rfl) (.cons (r_tmp rfl) .nil)) ?_)))))))
      refine ⟨_, ⟨by simp [pack, ldN, ldE, hf], rfl⟩, ?_⟩
      have e := set_self hi
      conv => rhs; rw [← e]
      exact shut_rsto (vs := vs) (set_selfV hvi).symm rfl rfl hv rfl hi h2 h3 h5 k2 k3 k4 k5
  · have hf' : isF fr.length f = false := by simpa using hf
    refine spec_body Tryz.func50 Tryz.ntmps50 rfl rfl ?_
    refine x_seq (x_region (s_val rfl (v_assign rfl) (s_val rfl (v_assign rfl) (x_nil (n_then (x_seq (x_seq (x_region (s_val rfl (v_move rfl) (s_val rfl (v_move rfl) (s_do rfl (d_call1 Tryz.call64 rfl (rfIs_spec W0 _ qs fr f)) ?_)))))))))))
    rintro _ B_ ⟨rfl, hB_⟩
    obtain rfl := hB_.symm
    refine s_val rfl (v_not rfl) (x_nil (n_then ?_))
    refine x_if rfl ?_ ?_
    · intro c1
      refine x_seq (x_region (s_val rfl (v_assign rfl) (s_val rfl (v_assign rfl) (x_nil (n_then (x_ret (r_then (x_done (.inl rfl) (.cons (r_tmp rfl) (.cons (r_tmp rfl) .nil)) ?_))))))))
      exact ⟨_, ⟨by simp [pack, ldN, ldE, hf'], rfl⟩, inferInstance⟩
    · intro c1
      exact absurd c1 (by simp [hf'])
theorem rfSave_spec (W0 : World) (R : List HP) (qs : Nat) (fr : List Frm) (f off w : Int) (x : Nat) (hx : x < 4294967296) (hF : Frs fr) :
    Spec Tryz.prog W0 34 [.pointer (some ⟨qs, 0, none⟩), .int .i64 f, .int .i64 off, .int .i64 w, .int .u32 x] (rstoH qs fr :: R)
      (fun v B => v = .int .i64 (if svOk fr f off w then 0 else 1) ∧ B = rstoH qs (svF fr f off w x) :: R) := by
  by_cases hf : isF fr.length f = true
  · obtain ⟨i, rfl, hi⟩ := isF_nat hf
    obtain ⟨hl, hb⟩ := hF.get hi
    by_cases hin : inB 64 off w = true
    · obtain ⟨o, k, rfl, rfl, hk, hok⟩ := inB_nat hin
      have hs : svOk fr i o k = true := by simp [svOk, hf, hin]
      have hpl : (putB (fr.getD i []) o k x).length = 64 := by rw [putB_len (by omega)]; exact hl
      refine spec_body Tryz.func34 Tryz.ntmps34 rfl rfl ?_
      refine x_seq (x_region (s_val rfl (v_assign rfl) (x_nil (n_then (x_seq (x_seq (x_region (s_val rfl (v_move rfl) (s_val rfl (v_move rfl) (s_do rfl (d_call1 Tryz.call64 rfl (rfIs_spec W0 _ qs fr i)) ?_))))))))))
      rintro _ B_ ⟨rfl, hB_⟩
      obtain rfl := hB_.symm
      refine s_val rfl (v_not rfl) (x_nil (n_then ?_))
      refine x_if rfl ?_ ?_
      · intro c1
        exact absurd c1 (by simp [hf])
      · intro c1
        refine x_skip (n_then (x_seq ?_))
        refine run_rstoN (qs := qs) hi fun a c vs vi hv hvi => ?_
        refine run_oslT (E := 5) (sz := 1) (v := vi) (fun h1 h2 => by have := congrArg List.length h2; rw [byV_len, hl] at this; cases this) fun g2 n2 c2 sp2 k1 k2 k3 k4 k5 => ?_
        obtain rfl : n2 = 64 := by rw [byV_len, hl] at k4; omega
        subst k1
        refine run_oslT (E := 44) (sz := 1) (v := .slice a fr.length c) (fun h1 h2 => by have := (Value.slice.inj h1).2.1; omega) fun g n c' sp h1 h2 h3 h4 h5 => ?_
        cases h1
        refine x_region (s_val rfl (v_move rfl) (s_val rfl (v_nilCheck rfl) ?_))
        refine s_val rfl (v_fieldAddr rfl Tryz.underlying38 rfl Tryz.sizeOf36 rfl (by first | exact Nat.zero_add _ | rfl)) ?_
        refine s_val rfl (v_load Tryz.isAgg36 rfl (cell_own rfl)) ?_
        refine s_val rfl (v_move rfl) ?_
        refine s_val rfl (v_idx Tryz.underlying36 Tryz.sizeOf44 rfl rfl rfl hi (by first | exact Nat.zero_add _ | rfl)) ?_
        refine s_val rfl (v_load Tryz.isAgg44 rfl (cell_own (by rw [Nat.mul_one, List.getElem?_append_left (by omega)]; exact hvi))) ?_
        refine s_val rfl (v_move rfl) (s_val rfl (v_move rfl) (s_val rfl (v_move rfl) ?_))
        refine s_do rfl (d_call Tryz.call65 rfl (refPutN_ok hl hx (cells_part (byV_front hl) (by rw [byV_len, hl])) hin (by decide))) ?_
        rintro _ B_ ⟨a', c', rfl, hB_⟩
        obtain rfl := hB_.symm
        refine run_oslT (E := 5) (sz := 1) (v := .slice a' 64 c') (fun h1 h2 => by have := (Value.slice.inj h1).2.1; omega) fun g3 n3 c3 sp3 q1 q2 q3 q4 q5 => ?_
        cases q1
        refine s_val rfl (v_move rfl) (s_val rfl (v_extract rfl rfl) (s_val rfl (v_extract rfl rfl) (s_val rfl (v_assign rfl) (s_val rfl (v_assign rfl) (x_nil (n_then (x_seq (x_seq (x_region (s_val rfl (v_move rfl) (s_val rfl (v_eql rfl rfl) (x_nil (n_then ?_)))))))))))))
        refine x_if rfl ?_ ?_
        · intro c4
          refine x_region (s_val rfl (v_move rfl) (s_val rfl (v_nilCheck rfl) ?_))
          refine s_val rfl (v_fieldAddr rfl Tryz.underlying38 rfl Tryz.sizeOf36 rfl (by first | exact Nat.zero_add _ | rfl)) ?_
          refine s_val rfl (v_load Tryz.isAgg36 rfl (cell_own rfl)) ?_
          refine s_val rfl (v_move rfl) (s_val rfl (v_move rfl) ?_)
          refine s_val rfl (v_idx Tryz.underlying36 Tryz.sizeOf44 rfl rfl rfl hi (by first | exact Nat.zero_add _ | rfl)) ?_
          refine s_do0 (d_store Tryz.sizeOf44 rfl rfl rfl (by rw [List.length_append]; omega) (by rw [Nat.mul_one, List.set_append_left _ _ (by omega)])) ?_
          rintro _ _ rfl
          refine x_nil (n_then (x_seq (x_region (s_val rfl (v_move rfl) (s_val rfl (v_assign rfl) (x_nil (n_then (x_ret (x_done (.inl rfl) (.cons (r_tmp rfl) .nil) ?_)))))))))
          rw [show svF fr i o k x = fr.set i (putB (fr.getD i []) o k x) by simp [svF, hs]]
          exact ⟨_, ⟨by simp [pack, hs], rfl⟩, shut_rsto (vs := vs) (vi := .slice (some ⟨g3, 0, none⟩) 64 c') rfl rfl rfl hv rfl hi h2 h3 (by rw [← h5]; simp) q2 q3 q4 q5⟩
        · intro c4
          exact absurd rfl c4
    · have hin' : inB 64 off w = false := by simpa using hin
      have hs : svOk fr i off w = false := by simp [svOk, hin']
      refine spec_body Tryz.func34 Tryz.ntmps34 rfl rfl ?_
      refine x_seq (x_region (s_val rfl (v_assign rfl) (x_nil (n_then (x_seq (x_seq (x_region (s_val rfl (v_move rfl) (s_val rfl (v_move rfl) (s_do rfl (d_call1 Tryz.call64 rfl (rfIs_spec W0 _ qs fr i)) ?_))))))))))
      rintro _ B_ ⟨rfl, hB_⟩
      obtain rfl := hB_.symm
      refine s_val rfl (v_not rfl) (x_nil (n_then ?_))
      refine x_if rfl ?_ ?_
      · intro c1
        exact absurd c1 (by simp [hf])
      · intro c1
        refine x_skip (n_then (x_seq ?_))
        refine run_rstoN (qs := qs) hi fun a c vs vi hv hvi => ?_
        refine run_oslT (E := 5) (sz := 1) (v := vi) (fun h1 h2 => by have := congrArg List.length h2; rw [byV_len, hl] at this; cases this) fun g2 n2 c2 sp2 k1 k2 k3 k4 k5 => ?_
        obtain rfl : n2 = 64 := by rw [byV_len, hl] at k4; omega
        subst k1
        refine run_oslT (E := 44) (sz := 1) (v := .slice a fr.length c) (fun h1 h2 => by have := (Value.slice.inj h1).2.1; omega) fun g n c' sp h1 h2 h3 h4 h5 => ?_
        cases h1
        refine x_region (s_val rfl (v_move rfl) (s_val rfl (v_nilCheck rfl) ?_))
        refine s_val rfl (v_fieldAddr rfl Tryz.underlying38 rfl Tryz.sizeOf36 rfl (by first | exact Nat.zero_add _ | rfl)) ?_
        refine s_val rfl (v_load Tryz.isAgg36 rfl (cell_own rfl)) ?_
        refine s_val rfl (v_move rfl) ?_
        refine s_val rfl (v_idx Tryz.underlying36 Tryz.sizeOf44 rfl rfl rfl hi (by first | exact Nat.zero_add _ | rfl)) ?_
        refine s_val rfl (v_load Tryz.isAgg44 rfl (cell_own (by rw [Nat.mul_one, List.getElem?_append_left (by omega)]; exact hvi))) ?_
        refine s_val rfl (v_move rfl) (s_val rfl (v_move rfl) (s_val rfl (v_move rfl) ?_))
        refine s_do rfl (d_call Tryz.call65 rfl (refPut_no W0 _ _ 64 c2 off w x hin' (by decide))) ?_
        rintro _ B_ ⟨rfl, hB_⟩
        obtain rfl := hB_.symm
        refine s_val rfl (v_move rfl) (s_val rfl (v_extract rfl rfl) (s_val rfl (v_extract rfl rfl) (s_val rfl (v_assign rfl) (s_val rfl (v_assign rfl) (x_nil (n_then (x_seq (x_seq (x_region (s_val rfl (v_move rfl) (s_val rfl (v_eql rfl rfl) (x_nil (n_then ?_)))))))))))))
        refine x_if rfl ?_ ?_
        · intro c4
          exact absurd c4 (by decide)
        · intro c4
          refine x_skip (n_then (x_seq (x_region (s_val rfl (v_move rfl) (s_val rfl (v_assign rfl) (x_nil (n_then (x_ret (x_done (.inl rfl) (.cons (r_tmp rfl) .nil) ?_)))))))))
          rw [show svF fr i off w x = fr by simp [svF, hs]]
          refine ⟨_, ⟨by simp [pack, hs], rfl⟩, ?_⟩
          have e := set_self hi
          conv => rhs; rw [← e]
          exact shut_rsto (vs := vs) (set_selfV hvi).symm rfl rfl hv rfl hi h2 h3 h5 k2 k3 k4 k5
  · have hf' : isF fr.length f = false := by simpa using hf
    have hs : svOk fr f off w = false := by simp [svOk, hf']
    refine spec_body Tryz.func34 Tryz.ntmps34 rfl rfl ?_
    refine x_seq (x_region (s_val rfl (v_assign rfl) (x_nil (n_then (x_seq (x_seq (x_region (s_val rfl (v_move rfl) (s_val rfl (v_move rfl) (s_do rfl (d_call1 Tryz.call64 rfl (rfIs_spec W0 _ qs fr f)) ?_))))))))))
    rintro _ B_ ⟨rfl, hB_⟩
    obtain rfl := hB_.symm
    refine s_val rfl (v_not rfl) (x_nil (n_then ?_))
    refine x_if rfl ?_ ?_
    · intro c1
      refine x_seq (x_region (s_val rfl (v_assign rfl) (x_nil (n_then (x_ret (r_then (x_done (.inl rfl) (.cons (r_tmp rfl) .nil) ?_)))))))
      rw [show svF fr f off w x = fr by simp [svF, hs]]
      exact ⟨_, ⟨by simp [pack, hs], rfl⟩, inferInstance⟩
    · intro c1
      exact absurd c1 (by simp [hf'])
end Go.Proofs.YtllkdnadmmjehaaGreatDoor
namespace Go.Proofs.YtllkdnadmmjehaaGreatDoor
open Go.RowKit
set_option linter.unusedSimpArgs false
set_option linter.unusedVariables false
set_option maxRecDepth 20000
theorem ent_rsto_snoc {A B R1 R2 R3 : List HP} {qs n c g2 : Nat} {a : Option Addr} {vs ys : List Value} {vi : Value} {fr : List Frm} {y : Frm} [h1 : Tk pt qs A (cob [.slice a n c] 38) R1] [h2 : Tk (osl 44 1) (.slice a n c) R1 (vs ++ [vi]) R2] [h3 : Tk pt g2 R2 (cob ys 5) R3]
    (hvi : vi = .slice (some ⟨g2, 0, none⟩) 64 64) (hy : ys = byV y) (hl : y.length = 64) (hv : vs.length = fr.length) (hn : n = fr.length + 1) [k : Ent R3 ((vs.zip fr).map inH ++ B)] : Ent A (rstoH qs (fr ++ [y]) :: B) := by
  subst hvi; subst hy
  have e1 : A.Perm (pt qs (cob [.slice a n c] 38) :: osl 44 1 (.slice a n c) (vs ++ [.slice (some ⟨g2, 0, none⟩) 64 64]) :: pt g2 (cob (byV y ++ []) 5) :: R3) := by
    rw [List.append_nil]; exact h1.perm.trans ((h2.perm.trans (h3.perm.cons _)).cons _)
  have e2 : Ent (pt g2 (cob (byV y ++ []) 5) :: R3) (osl 5 1 (.slice (some ⟨g2, 0, none⟩) 64 64) (byV y) :: ((vs.zip fr).map inH ++ B)) := ent_osl (Nat.le_refl _) (by simp only [maxLen]; omega) (by rw [byV_len, hl]) (by rw [List.append_nil, byV_len, hl])
  have e3 : ((vs ++ [Value.slice (some ⟨g2, 0, none⟩) 64 64]).zip (fr ++ [y])).map inH = (vs.zip fr).map inH ++ [osl 5 1 (.slice (some ⟨g2, 0, none⟩) 64 64) (byV y)] := by
    rw [List.zip_append hv, List.map_append]; rfl
  have e4 : (osl 5 1 (.slice (some ⟨g2, 0, none⟩) 64 64) (byV y) :: ((vs.zip fr).map inH ++ B)).Perm (((vs ++ [Value.slice (some ⟨g2, 0, none⟩) 64 64]).zip (fr ++ [y])).map inH ++ B) := by
    rw [e3, List.append_assoc]; exact List.perm_middle.symm
  exact (Ent.ofPerm e1).trans ((Ent.cons (Ent.cons (e2.trans (Ent.ofPerm e4)))).trans (ent_rsto (vs := vs ++ [.slice (some ⟨g2, 0, none⟩) 64 64]) (by simp [hv]) (by simp [hn])))
theorem rfNew_spec (W0 : World) (R : List HP) (n : Nat) (h : n ≤ 32) :
    Spec Tryz.prog W0 23 [.int .i64 n] R (fun v B => ∃ b, v = .tuple #[.pointer (some ⟨b, 0, none⟩), .int .i64 0] ∧ B = rstoH b (List.replicate n zeros) :: R) := by
  refine spec_body Tryz.func23 Tryz.ntmps23 rfl rfl ?_
  refine x_seq (x_region (s_val rfl (v_assign rfl) (s_val rfl (v_assign rfl) (x_nil (n_then (x_seq (x_seq (x_region (s_val rfl (v_move rfl) (s_val rfl (v_lss rfl rfl) (s_val rfl (v_move rfl) ?_)))))))))))
  refine s_or rfl rfl rfl ?_ ?_
  · intro g1_3
    omega
  · intro g1_3
    refine s_val rfl (v_move rfl) (s_yes rfl rfl (s_val rfl (v_gtr rfl rfl) (s_val rfl (v_pick_f rfl rfl) (x_nil (n_then ?_)))))
    refine x_if rfl ?_ ?_
    · intro c1
      omega
    · intro c1
      refine x_skip (n_then (x_seq (x_region (s_val rfl (v_build Tryz.underlying38 Tryz.zeroValue38 (sized_cons Tryz.sizeOf36 sized_nil) fil_nil) ?_))))
      refine s_do rfl (d_boxA rfl) ?_
      rintro _ _ ⟨b1, rfl, rfl⟩
      refine s_val rfl (v_assign rfl) (x_nil (n_then (x_seq (x_seq (x_region (s_val rfl (v_assign rfl) (x_nil (n_then (x_block ?_)))))))))
      refine x_loop (fun i : Nat => i ≤ n) (fun i => [(0, .int .i64 n), (4, .pointer (some ⟨b1, 0, none⟩)), (5, .int .i64 i)]) (fun i => rstoH b1 (List.replicate i zeros) :: R) (fun i => n - i) 0 ?_ ?_ ?_ ?_
      · exact Nat.zero_le _
      · repeat (first | exact sub_nil | refine sub_cons rfl ?_)
      · exact (Ent.cons (ent_osl_nil (B := R))).trans (ent_chk (R := R) (C := [_, _]) ⟨none, 0, [], rfl, rfl⟩)
      · intro i hi
        refine x_seq (x_seq (x_region (s_val rfl (v_move rfl) (s_val rfl (v_move rfl) (s_val rfl (v_lss rfl rfl) (x_nil (n_then ?_)))))))
        refine x_if rfl ?_ ?_
        · intro c5
          refine x_skip (n_then (x_seq (x_block ?_)))
          refine run_rsto (qs := b1) fun a c vs hv => ?_
          rw [List.length_replicate] at hv ⊢
          refine x_draw [] 11 mixed rfl sc_end (fun hS => ?_)
          refine d_take 0 rfl rfl (by kernel_rfl) (by kernel_rfl) (by kernel_rfl) rfl hS (v_move rfl) ?_
          refine d_take 1 rfl rfl (by kernel_rfl) (by kernel_rfl) (by kernel_rfl) rfl hS (v_move rfl) ?_
          refine d_take 2 rfl rfl (by kernel_rfl) (by kernel_rfl) (by kernel_rfl) rfl hS (v_nilCheck rfl) ?_
          refine d_take 3 rfl rfl (by kernel_rfl) (by kernel_rfl) (by kernel_rfl) rfl hS (v_fieldAddr rfl Tryz.underlying38 rfl Tryz.sizeOf36 rfl (by first | exact Nat.zero_add _ | rfl)) ?_
          refine d_all (is := [4, 5]) (by kernel_rfl) rfl ⟨?_, ?_, trivial⟩
          · skip
            refine dx_one rfl rfl (d_val (v_load Tryz.isAgg36 rfl (cell_own rfl))) rfl ?_; clear hS
            rintro _ _ ⟨rfl, rfl⟩
            refine ⟨sc_end, fun hS => ?_⟩
            refine d_one 5 (by kernel_rfl) rfl rfl (d_make (sz := 1) (by_ := 1) (info := Tryz.t5) Tryz.underlying44 (by kernel_rfl) rfl rfl rfl rfl (by decide) rfl rfl rfl rfl (by decide) (by decide)) rfl ?_; clear hS
            rintro _ _ ⟨b2, rfl, rfl⟩
            refine ⟨sc_end, fun hS => ?_⟩
            refine d_one 6 (by kernel_rfl) rfl rfl (d_sliceLit Tryz.underlying36 Tryz.sizeOf44 Tryz.zeroValue44 rfl rfl rfl rfl rfl (by decide) (by decide)) rfl ?_; clear hS
            rintro _ _ ⟨b3, rfl, rfl⟩
            refine ⟨sc_end, fun hS => ?_⟩
            refine d_one 7 (by kernel_rfl) rfl rfl (d_append (sz := 1) (by_ := 24) (info := Tryz.t44) Tryz.underlying36 (by kernel_rfl) rfl rfl rfl rfl (by decide) rfl rfl cells_all rfl rfl (by simp only [maxLen]; omega) (by omega)) rfl ?_; clear hS
            rintro _ B_ ⟨a1, c1, rfl, hB_⟩
            obtain rfl := hB_.symm
            refine ⟨sc_end, fun hS => ?_⟩
            refine d_take 8 rfl rfl (by kernel_rfl) (by kernel_rfl) (by kernel_rfl) rfl hS (v_nilCheck rfl) ?_
            refine d_take 9 rfl rfl (by kernel_rfl) (by kernel_rfl) (by kernel_rfl) rfl hS (v_fieldAddr rfl Tryz.underlying38 rfl Tryz.sizeOf36 rfl (by first | exact Nat.zero_add _ | rfl)) ?_
            refine d_one 10 (by kernel_rfl) rfl rfl (d_store Tryz.sizeOf36 rfl rfl rfl (Nat.le_of_ble_eq_true rfl) SetL.eq) rfl ?_; clear hS
            rintro _ _ rfl
            refine ⟨sc_end, fun hS => ?_⟩
            refine d_done (by kernel_rfl) ?_; clear hS
            refine n_block (n_then (x_region (s_val rfl (v_move rfl) ?_)))
            refine s_val rfl (v_add rfl rfl (by first | exact w64 (by omega) | rfl)) ?_
            refine s_val rfl (v_assign rfl) (x_nil (n_then ?_))
            refine inv_intro (i + 1) ?_ ?_ ?_ ?_
            · omega
            · omega
            · repeat (first | exact sub_nil | refine sub_cons rfl ?_)
            · rw [show List.replicate (i + 1) zeros = List.replicate i zeros ++ [zeros] from List.replicate_succ']; exact ent_rsto_snoc (vs := vs) (n := i + 1) (a := a1) (c := c1) (g2 := b2) (ys := List.replicate (64 * 1) (.int .u8 0)) (y := zeros) (vi := .slice (some ⟨b2, 0, none⟩) 64 64) (fr := List.replicate i zeros) rfl rfl (by simp [zeros]) (by simp [hv]) (by simp)
          · skip
            refine dx_one rfl rfl (d_make (sz := 1) (by_ := 1) (info := Tryz.t5) Tryz.underlying44 (by kernel_rfl) rfl rfl rfl rfl (by decide) rfl rfl rfl rfl (by decide) (by decide)) rfl ?_; clear hS
            rintro _ _ ⟨b2, rfl, rfl⟩
            refine ⟨sc_end, fun hS => ?_⟩
            refine d_all (is := [4, 6]) (by kernel_rfl) rfl ⟨?_, ?_, trivial⟩
            · skip
              refine dx_one rfl rfl (d_val (v_load Tryz.isAgg36 rfl (cell_own rfl))) rfl ?_; clear hS
              rintro _ _ ⟨rfl, rfl⟩
              refine ⟨sc_end, fun hS => ?_⟩
              refine d_one 6 (by kernel_rfl) rfl rfl (d_sliceLit Tryz.underlying36 Tryz.sizeOf44 Tryz.zeroValue44 rfl rfl rfl rfl rfl (by decide) (by decide)) rfl ?_; clear hS
              rintro _ _ ⟨b3, rfl, rfl⟩
              refine ⟨sc_end, fun hS => ?_⟩
              refine d_one 7 (by kernel_rfl) rfl rfl (d_append (sz := 1) (by_ := 24) (info := Tryz.t44) Tryz.underlying36 (by kernel_rfl) rfl rfl rfl rfl (by decide) rfl rfl cells_all rfl rfl (by simp only [maxLen]; omega) (by omega)) rfl ?_; clear hS
              rintro _ B_ ⟨a1, c1, rfl, hB_⟩
              obtain rfl := hB_.symm
              refine ⟨sc_end, fun hS => ?_⟩
              refine d_take 8 rfl rfl (by kernel_rfl) (by kernel_rfl) (by kernel_rfl) rfl hS (v_nilCheck rfl) ?_
              refine d_take 9 rfl rfl (by kernel_rfl) (by kernel_rfl) (by kernel_rfl) rfl hS (v_fieldAddr rfl Tryz.underlying38 rfl Tryz.sizeOf36 rfl (by first | exact Nat.zero_add _ | rfl)) ?_
              refine d_one 10 (by kernel_rfl) rfl rfl (d_store Tryz.sizeOf36 rfl rfl rfl (Nat.le_of_ble_eq_true rfl) SetL.eq) rfl ?_; clear hS
              rintro _ _ rfl
              refine ⟨sc_end, fun hS => ?_⟩
              refine d_done (by kernel_rfl) ?_; clear hS
              refine n_block (n_then (x_region (s_val rfl (v_move rfl) ?_)))
              refine s_val rfl (v_add rfl rfl (by first | exact w64 (by omega) | rfl)) ?_
              refine s_val rfl (v_assign rfl) (x_nil (n_then ?_))
              refine inv_intro (i + 1) ?_ ?_ ?_ ?_
              · omega
              · omega
              · repeat (first | exact sub_nil | refine sub_cons rfl ?_)
              · rw [show List.replicate (i + 1) zeros = List.replicate i zeros ++ [zeros] from List.replicate_succ']; exact ent_rsto_snoc (vs := vs) (n := i + 1) (a := a1) (c := c1) (g2 := b2) (ys := List.replicate (64 * 1) (.int .u8 0)) (y := zeros) (vi := .slice (some ⟨b2, 0, none⟩) 64 64) (fr := List.replicate i zeros) rfl rfl (by simp [zeros]) (by simp [hv]) (by simp)
            · skip
              refine dx_one rfl rfl (d_sliceLit Tryz.underlying36 Tryz.sizeOf44 Tryz.zeroValue44 rfl rfl rfl rfl rfl (by decide) (by decide)) rfl ?_; clear hS
              rintro _ _ ⟨b3, rfl, rfl⟩
              refine ⟨sc_end, fun hS => ?_⟩
              refine d_one 4 (by kernel_rfl) rfl rfl (d_val (v_load Tryz.isAgg36 rfl (cell_own rfl))) rfl ?_; clear hS
              rintro _ _ ⟨rfl, rfl⟩
              refine ⟨sc_end, fun hS => ?_⟩
              refine d_one 7 (by kernel_rfl) rfl rfl (d_append (sz := 1) (by_ := 24) (info := Tryz.t44) Tryz.underlying36 (by kernel_rfl) rfl rfl rfl rfl (by decide) rfl rfl cells_all rfl rfl (by simp only [maxLen]; omega) (by omega)) rfl ?_; clear hS
              rintro _ B_ ⟨a1, c1, rfl, hB_⟩
              obtain rfl := hB_.symm
              refine ⟨sc_end, fun hS => ?_⟩
              refine d_take 8 rfl rfl (by kernel_rfl) (by kernel_rfl) (by kernel_rfl) rfl hS (v_nilCheck rfl) ?_
              refine d_take 9 rfl rfl (by kernel_rfl) (by kernel_rfl) (by kernel_rfl) rfl hS (v_fieldAddr rfl Tryz.underlying38 rfl Tryz.sizeOf36 rfl (by first | exact Nat.zero_add _ | rfl)) ?_
              refine d_one 10 (by kernel_rfl) rfl rfl (d_store Tryz.sizeOf36 rfl rfl rfl (Nat.le_of_ble_eq_true rfl) SetL.eq) rfl ?_; clear hS
              rintro _ _ rfl
              refine ⟨sc_end, fun hS => ?_⟩
              refine d_done (by kernel_rfl) ?_; clear hS
              refine n_block (n_then (x_region (s_val rfl (v_move rfl) ?_)))
              refine s_val rfl (v_add rfl rfl (by first | exact w64 (by omega) | rfl)) ?_
              refine s_val rfl (v_assign rfl) (x_nil (n_then ?_))
              refine inv_intro (i + 1) ?_ ?_ ?_ ?_
              · omega
              · omega
              · repeat (first | exact sub_nil | refine sub_cons rfl ?_)
              · rw [show List.replicate (i + 1) zeros = List.replicate i zeros ++ [zeros] from List.replicate_succ']; exact ent_rsto_snoc (vs := vs) (n := i + 1) (a := a1) (c := c1) (g2 := b2) (ys := List.replicate (64 * 1) (.int .u8 0)) (y := zeros) (vi := .slice (some ⟨b2, 0, none⟩) 64 64) (fr := List.replicate i zeros) rfl rfl (by simp [zeros]) (by simp [hv]) (by simp)
        · intro c5
          refine x_exit (e_then (e_then (e_block (n_then (x_seq (x_region (s_val rfl (v_move rfl) (s_val rfl (v_assign rfl) (s_val rfl (v_assign rfl) (x_nil (n_then (x_ret (x_done (.inl rfl) (.cons (r_tmp rfl) (.cons (r_tmp rfl) .nil)) ?_)))))))))))))
          have : i = n := by omega
          subst this
          exact ⟨_, ⟨b1, rfl, rfl⟩, inferInstance⟩
end Go.Proofs.YtllkdnadmmjehaaGreatDoor
namespace Go.Proofs.YtllkdnadmmjehaaGreatDoor
open Go.RowKit
set_option linter.unusedSimpArgs false
set_option linter.unusedVariables false
set_option maxRecDepth 20000
def thV (p : Pl) : Value := .bool (decide (p ≠ (0, 0)))
abbrev rgO (pg : List Pl) : Obj := cob (pg.map thV ++ pg.flatMap plV) 82
theorem th_row {pg : List Pl} {sp : List Value} {i : Nat} (hi : i < pg.length) : ((pg.map thV ++ sp).drop (i * 1)).take 1 = [thV (plAt pg i)] := by
  rw [Nat.mul_one, List.drop_append_of_le_length (by simp; omega), ← List.map_drop, List.drop_eq_getElem_cons hi, List.map_cons, List.cons_append, List.take_succ_cons, List.take_zero]
  simp [plAt, List.getD, hi]
theorem rp_row {pg : List Pl} {i : Nat} (h : pg.length = 12) (hi : i < 12) : ((pg.map thV ++ pg.flatMap plV).drop (12 + i * 2)).take 2 = plV (plAt pg i) := by
  rw [← List.drop_drop, List.drop_left' (by simpa using h)]
  have := pg_row (pg := pg) (sp := []) (n := i) (by omega)
  rwa [List.append_nil] at this
theorem setR_back : ∀ (vs a b : List Value) (off : Nat), setR (a ++ b) (a.length + off) vs = a ++ setR b off vs
  | [], a, b, off => rfl
  | v :: vs, a, b, off => by
    rw [setR, setR, List.set_append_right _ _ (by omega), show a.length + off - a.length = off by omega, show a.length + off + 1 = a.length + (off + 1) by omega, setR_back vs]
theorem rg_set {pg : List Pl} {i : Nat} {p : Pl} (h : pg.length = 12) (hi : i < 12) (hp : okPl p = true) : setR ((pg.map thV ++ pg.flatMap plV).set (i * 1) (.bool true)) (12 + i * 2) (plV p) = (pg.set i p).map thV ++ (pg.set i p).flatMap plV := by
  have ht : thV p = .bool true := by
    have := okPl_iff.1 hp
    simp only [thV, Value.bool.injEq, decide_eq_true_eq]
    intro e; rw [e] at this; simp at this
  rw [Nat.mul_one, List.set_append_left _ _ (by simp; omega), ← ht, ← List.map_set]
  have e := setR_back (plV p) ((pg.set i p).map thV) (pg.flatMap plV) (i * 2)
  rw [show ((pg.set i p).map thV).length = 12 by simp [h]] at e
  rw [e]
  have := pg_set (pg := pg) (sp := []) (n := i) (p := p) (by omega)
  rw [List.append_nil, List.append_nil] at this
  rw [this]
theorem rgIs_spec (W0 : World) (R : List HP) (n : Int) : Spec Tryz.prog W0 58 [.int .i64 n] R (fun v B => v = .bool (isP n) ∧ B = R) := by
  refine spec_body Tryz.func58 Tryz.ntmps58 rfl rfl ?_
  refine x_seq (x_region (s_val rfl (v_assign rfl) (x_nil (n_then (x_seq (x_region (s_val rfl (v_move rfl) (s_val rfl (v_geq rfl rfl) (s_val rfl (v_move rfl) ?_)))))))))
  refine s_and rfl rfl rfl ?_ ?_
  · intro g1_3
    refine s_val rfl (v_move rfl) (s_yes rfl rfl (s_val rfl (v_lss rfl rfl) (s_val rfl (v_pick_t rfl rfl) (s_val rfl (v_assign rfl) (x_nil (n_then (x_ret (x_done (.inl rfl) (.cons (r_tmp rfl) .nil) ?_))))))))
    refine ⟨_, ⟨?_, rfl⟩, inferInstance⟩
    refine congrArg Value.bool ?_
    rw [Bool.eq_iff_iff]; simp only [isP, decide_eq_true_eq, Bool.false_eq_true, false_iff]; omega
  · intro g1_3
    refine s_no rfl rfl rfl rfl (s_val rfl (v_pick_f rfl rfl) (s_val rfl (v_assign rfl) (x_nil (n_then (x_ret (x_done (.inl rfl) (.cons (r_tmp rfl) .nil) ?_))))))
    refine ⟨_, ⟨?_, rfl⟩, inferInstance⟩
    refine congrArg Value.bool ?_
    rw [Bool.eq_iff_iff]; simp only [isP, decide_eq_true_eq, Bool.false_eq_true, false_iff]; omega
theorem rgSet_spec (W0 : World) (R : List HP) (b : Nat) (pg : List Pl) (h : Pgs pg) (n : Int) (p : Pl) : Spec Tryz.prog W0 26 [.pointer (some ⟨b, 0, none⟩), .int .i64 n, .agg (plV p).toArray] (pt b (rgO pg) :: R)
    (fun v B => v = .int .i64 (setE pg n p) ∧ B = pt b (rgO (setP pg n p)) :: R) := by
  have hl := h.len
  refine spec_body Tryz.func26 Tryz.ntmps26 rfl rfl ?_
  refine x_seq (x_region (s_do rfl (d_boxA rfl) ?_))
  rintro _ _ ⟨b1, rfl, rfl⟩
  refine s_val rfl (v_assign rfl) (x_nil (n_then (x_seq (x_seq (x_region (s_val rfl (v_move rfl) (s_do rfl (d_call Tryz.call58 rfl (rgIs_spec W0 _ n)) ?_)))))))
  rintro _ B_ ⟨rfl, hB_⟩
  obtain rfl := hB_.symm
  refine s_val rfl (v_not rfl) (s_val rfl (v_move rfl) ?_)
  refine s_or rfl rfl rfl ?_ ?_
  · intro g1_4
    refine s_no rfl rfl rfl rfl (s_no rfl rfl rfl rfl (s_val rfl (v_pick_t rfl rfl) (s_val rfl (v_move rfl) (s_no rfl rfl rfl rfl (s_no rfl rfl rfl rfl (s_no rfl rfl rfl rfl (s_val rfl (v_pick_t rfl rfl) (s_val rfl (v_move rfl) (s_no rfl rfl rfl rfl (s_no rfl rfl rfl rfl (s_no rfl rfl rfl rfl (s_val rfl (v_pick_t rfl rfl) (s_val rfl (v_move rfl) (s_no rfl rfl rfl rfl (s_no rfl rfl rfl rfl (s_no rfl rfl rfl rfl (s_val rfl (v_pick_t rfl rfl) (x_nil (n_then (x_ift rfl (x_seq (x_region (s_val rfl (v_assign rfl) ?_)))))))))))))))))))))))
    refine x_nil (n_then (x_ret (r_then (x_done (.inl rfl) (.cons (r_tmp rfl) .nil) ?_))))
    have he : setE pg n p = 1 := by
      unfold setE; rw [if_neg]
      intro hk
      have := okPl_iff.1 hk.2
      first
        | omega
        | (simp [hk.1] at g1_4)
    exact ⟨_, ⟨by simp [pack, he], by rw [setP, he, if_neg (by decide)]⟩, inferInstance⟩
  · intro g1_4
    refine s_val rfl (v_fieldAddr rfl Tryz.underlying70 rfl Tryz.sizeOf3 rfl (by first | exact Nat.zero_add _ | rfl)) ?_
    refine s_yes rfl rfl (s_val rfl (v_load Tryz.isAgg3 rfl (cell_own rfl)) ?_)
    refine s_yes rfl rfl (s_val rfl (v_lss rfl rfl) (s_val rfl (v_pick_f rfl rfl) (s_val rfl (v_move rfl) ?_)))
    refine s_or rfl rfl rfl ?_ ?_
    · intro g1_9
      refine s_no rfl rfl rfl rfl (s_no rfl rfl rfl rfl (s_val rfl (v_pick_t rfl rfl) (s_val rfl (v_move rfl) (s_no rfl rfl rfl rfl (s_no rfl rfl rfl rfl (s_no rfl rfl rfl rfl (s_val rfl (v_pick_t rfl rfl) (s_val rfl (v_move rfl) (s_no rfl rfl rfl rfl (s_no rfl rfl rfl rfl (s_no rfl rfl rfl rfl (s_val rfl (v_pick_t rfl rfl) (x_nil (n_then (x_ift rfl (x_seq (x_region (s_val rfl (v_assign rfl) (x_nil (n_then (x_ret (r_then (x_done (.inl rfl) (.cons (r_tmp rfl) .nil) ?_)))))))))))))))))))))))
      have he : setE pg n p = 1 := by
        unfold setE; rw [if_neg]
        intro hk
        have := okPl_iff.1 hk.2
        first
          | omega
          | (simp [hk.1] at g1_4)
      exact ⟨_, ⟨by simp [pack, he], by rw [setP, he, if_neg (by decide)]⟩, inferInstance⟩
    · intro g1_9
      refine s_val rfl (v_fieldAddr rfl Tryz.underlying70 rfl Tryz.sizeOf3 rfl (by first | exact Nat.zero_add _ | rfl)) ?_
      refine s_yes rfl rfl (s_val rfl (v_load Tryz.isAgg3 rfl (cell_own rfl)) ?_)
      refine s_yes rfl rfl (s_val rfl (v_geq rfl rfl) (s_val rfl (v_pick_f rfl rfl) (s_val rfl (v_move rfl) ?_)))
      refine s_or rfl rfl rfl ?_ ?_
      · intro g1_14
        refine s_no rfl rfl rfl rfl (s_no rfl rfl rfl rfl (s_val rfl (v_pick_t rfl rfl) (s_val rfl (v_move rfl) (s_no rfl rfl rfl rfl (s_no rfl rfl rfl rfl (s_no rfl rfl rfl rfl (s_val rfl (v_pick_t rfl rfl) (x_nil (n_then (x_ift rfl (x_seq (x_region (s_val rfl (v_assign rfl) (x_nil (n_then (x_ret (r_then (x_done (.inl rfl) (.cons (r_tmp rfl) .nil) ?_))))))))))))))))))
        have he : setE pg n p = 1 := by
          unfold setE; rw [if_neg]
          intro hk
          have := okPl_iff.1 hk.2
          first
            | omega
            | (simp [hk.1] at g1_4)
        exact ⟨_, ⟨by simp [pack, he], by rw [setP, he, if_neg (by decide)]⟩, inferInstance⟩
      · intro g1_14
        refine s_val rfl (v_fieldAddr rfl Tryz.underlying70 rfl Tryz.sizeOf3 rfl (by first | exact Nat.zero_add _ | rfl)) ?_
        refine s_yes rfl rfl (s_val rfl (v_load Tryz.isAgg3 rfl (cell_own rfl)) ?_)
        refine s_yes rfl rfl (s_val rfl (v_lss rfl rfl) (s_val rfl (v_pick_f rfl rfl) (s_val rfl (v_move rfl) ?_)))
        refine s_or rfl rfl rfl ?_ ?_
        · intro g1_19
          refine s_no rfl rfl rfl rfl (s_no rfl rfl rfl rfl (s_val rfl (v_pick_t rfl rfl) (x_nil (n_then (x_ift rfl (x_seq (x_region (s_val rfl (v_assign rfl) (x_nil (n_then (x_ret (r_then (x_done (.inl rfl) (.cons (r_tmp rfl) .nil) ?_)))))))))))))
          have he : setE pg n p = 1 := by
            unfold setE; rw [if_neg]
            intro hk
            have := okPl_iff.1 hk.2
            first
              | omega
              | (simp [hk.1] at g1_4)
          exact ⟨_, ⟨by simp [pack, he], by rw [setP, he, if_neg (by decide)]⟩, inferInstance⟩
        · intro g1_19
          refine s_val rfl (v_fieldAddr rfl Tryz.underlying70 rfl Tryz.sizeOf3 rfl (by first | exact Nat.zero_add _ | rfl)) ?_
          refine s_yes rfl rfl (s_val rfl (v_load Tryz.isAgg3 rfl (cell_own rfl)) ?_)
          refine s_yes rfl rfl (s_val rfl (v_gtr rfl rfl) (s_val rfl (v_pick_f rfl rfl) (x_nil (n_then ?_))))
          refine x_if rfl ?_ ?_
          · intro c1
            refine x_seq (x_region (s_val rfl (v_assign rfl) (x_nil (n_then (x_ret (r_then (x_done (.inl rfl) (.cons (r_tmp rfl) .nil) ?_)))))))
            have he : setE pg n p = 1 := by
              unfold setE; rw [if_neg]
              intro hk
              have := okPl_iff.1 hk.2
              first
                | omega
                | (simp [hk.1] at g1_4)
            exact ⟨_, ⟨by simp [pack, he], by rw [setP, he, if_neg (by decide)]⟩, inferInstance⟩
          · intro c1
            have hp : isP n = true := by simpa using g1_4
            have ho : okPl p = true := okPl_iff.2 (by omega)
            obtain ⟨i, hni, hi⟩ := isP_nat hp
            have htr := th_row (pg := pg) (sp := pg.flatMap plV) (i := i) (by omega)
            have hth : thereB pg n = decide (plAt pg i ≠ (0, 0)) := by rw [thereB, hp]; simp [hni]
            refine x_skip (n_then (x_seq (x_seq (x_region (s_val rfl (v_move rfl) (s_val rfl (v_move rfl) (s_val rfl (v_nilCheck rfl) ?_)))))))
            refine s_val rfl (v_fieldAddr rfl Tryz.underlying82 rfl Tryz.sizeOf41 rfl (by first | exact Nat.zero_add _ | rfl)) ?_
            refine s_val rfl (v_idxArr Tryz.underlying41 Tryz.sizeOf4 rfl rfl hni hi (by first | exact Nat.zero_add _ | rfl)) ?_
            refine s_val rfl (v_load Tryz.isAgg4 rfl (cells_part (vs := [thV (plAt pg i)]) htr rfl 0 _ rfl)) ?_
            refine x_nil (n_then ?_)
            refine x_if rfl ?_ ?_
            · intro c3
              have ht : thereB pg n = true := by rw [hth]; simpa using c3
              refine x_seq (x_region (s_val rfl (v_assign rfl) (x_nil (n_then (x_ret (r_then (x_done (.inl rfl) (.cons (r_tmp rfl) .nil) ?_)))))))
              have he : setE pg n p = 5 := by unfold setE; rw [if_pos ⟨hp, ho⟩, if_pos ht]
              exact ⟨_, ⟨by simp [pack, he], by rw [setP, he, if_neg (by decide)]⟩, inferInstance⟩
            · intro c3
              have ht : thereB pg n = false := by rw [hth]; simpa using c3
              have he : setE pg n p = 0 := by simp [setE, hp, ho, ht]
              refine x_skip (n_then (x_seq (x_region (s_val rfl (v_move rfl) (s_val rfl (v_move rfl) (s_val rfl (v_nilCheck rfl) ?_))))))
              refine s_val rfl (v_fieldAddr rfl Tryz.underlying82 rfl Tryz.sizeOf41 rfl (by first | exact Nat.zero_add _ | rfl)) ?_
              refine s_val rfl (v_idxArr Tryz.underlying41 Tryz.sizeOf4 rfl rfl hni hi (by first | exact Nat.zero_add _ | rfl)) ?_
              refine s_do0 (d_store Tryz.sizeOf4 rfl rfl rfl (by rw [List.length_append, List.length_map, flat_len plV_len]; omega) rfl) ?_
              rintro _ _ rfl
              refine x_nil (n_then (x_seq ?_))
              refine x_draw [(b1, 0, _)] 7 mixed rfl (sc_own sc_end) (fun hS => ?_)
              refine d_take 0 rfl rfl (by kernel_rfl) (by kernel_rfl) (by kernel_rfl) rfl hS (v_move rfl) ?_
              refine d_take 1 rfl rfl (by kernel_rfl) (by kernel_rfl) (by kernel_rfl) rfl hS (v_move rfl) ?_
              refine d_take 2 rfl rfl (by kernel_rfl) (by kernel_rfl) (by kernel_rfl) rfl hS (v_loadAgg Tryz.isAgg70 Tryz.sizeOf70 rfl (cells_sc (k := 0) rfl) rfl) ?_
              refine d_take 3 rfl rfl (by kernel_rfl) (by kernel_rfl) (by kernel_rfl) rfl hS (v_nilCheck rfl) ?_
              refine d_take 4 rfl rfl (by kernel_rfl) (by kernel_rfl) (by kernel_rfl) rfl hS (v_fieldAddr rfl Tryz.underlying82 rfl Tryz.sizeOf80 rfl (by first | exact Nat.zero_add _ | rfl)) ?_
              refine d_take 5 rfl rfl (by kernel_rfl) (by kernel_rfl) (by kernel_rfl) rfl hS (v_idxArr Tryz.underlying80 Tryz.sizeOf70 rfl rfl hni hi (by first | exact Nat.zero_add _ | rfl)) ?_
              refine d_one 6 (by kernel_rfl) rfl rfl (d_storeAgg Tryz.sizeOf70 rfl rfl rfl rfl (by rw [List.length_set, List.length_append, List.length_map, flat_len plV_len]; omega) (rg_set hl hi ho)) rfl ?_; clear hS
              rintro _ _ rfl
              refine ⟨(sc_own sc_end), fun hS => ?_⟩
              refine d_done (by kernel_rfl) ?_; clear hS
              refine n_then (x_seq (x_region (s_val rfl (v_assign rfl) (x_nil (n_then (x_ret (x_done (.inl rfl) (.cons (r_tmp rfl) .nil) ?_)))))))
              rw [show setP pg n p = pg.set i p by rw [setP, if_pos he, hni, Int.toNat_natCast]]
              exact ⟨_, ⟨by simp [pack, he], rfl⟩, inferInstance⟩
theorem rgGet_spec (W0 : World) (R : List HP) (b : Nat) (pg : List Pl) (h : Pgs pg) (n : Int) : Spec Tryz.prog W0 83 [.pointer (some ⟨b, 0, none⟩), .int .i64 n] (pt b (rgO pg) :: R)
    (fun v B => v = .tuple #[.agg (plV (gGot pg n)).toArray, .bool (thereB pg n)] ∧ B = pt b (rgO pg) :: R) := by
  have hl := h.len
  refine spec_body Tryz.func83 Tryz.ntmps83 rfl rfl ?_
  refine x_seq (x_region (s_do rfl (d_allocA Tryz.zeroValue70) ?_))
  rintro _ _ ⟨b1, rfl, rfl⟩
  refine s_val rfl (v_assign rfl) (x_nil (n_then (x_seq (x_seq (x_region (s_val rfl (v_move rfl) (s_do rfl (d_call Tryz.call58 rfl (rgIs_spec W0 _ n)) ?_)))))))
  rintro _ B_ ⟨rfl, hB_⟩
  obtain rfl := hB_.symm
  refine s_val rfl (v_not rfl) (x_nil (n_then ?_))
  refine x_if rfl ?_ ?_
  · intro c1
    refine x_seq (x_region (s_val rfl (v_build Tryz.underlying70 Tryz.zeroValue70 (sized_cons Tryz.sizeOf3 (sized_cons Tryz.sizeOf3 sized_nil)) fil_nil) ?_))
    refine s_do0 (d_storeAll Tryz.sizeOf70 rfl rfl rfl rfl rfl) ?_
    rintro _ _ rfl
    refine s_val rfl (v_assign rfl) (x_nil (n_then (x_ret (r_then (x_done (.inl rfl) (.cons (r_all Tryz.isAgg70 Tryz.sizeOf70 rfl rfl) (.cons (r_tmp rfl) .nil)) ?_)))))
    refine ⟨_, ⟨?_, rfl⟩, inferInstance⟩
    have ht : thereB pg n = false := by simp [thereB, show isP n = false by simpa using c1]
    simp [pack, gGot, ht]
  · intro c1
    have hp : isP n = true := by simpa using c1
    obtain ⟨i, hni, hi⟩ := isP_nat hp
    have htr := th_row (pg := pg) (sp := pg.flatMap plV) (i := i) (by omega)
    have hpr := rp_row (pg := pg) hl hi
    refine x_skip (n_then (x_seq ?_))
    refine x_draw [(b, 12 + i * 2, plV (plAt pg i)), (b, i * 1, [thV (plAt pg i)])] 14 mixed rfl (sc_cons (cells_part hpr rfl) (sc_cons (cells_part htr rfl) sc_end)) (fun hS => ?_)
    refine d_take 0 rfl rfl (by kernel_rfl) (by kernel_rfl) (by kernel_rfl) rfl hS (v_move rfl) ?_
    refine d_take 1 rfl rfl (by kernel_rfl) (by kernel_rfl) (by kernel_rfl) rfl hS (v_move rfl) ?_
    refine d_take 2 rfl rfl (by kernel_rfl) (by kernel_rfl) (by kernel_rfl) rfl hS (v_nilCheck rfl) ?_
    refine d_take 3 rfl rfl (by kernel_rfl) (by kernel_rfl) (by kernel_rfl) rfl hS (v_fieldAddr rfl Tryz.underlying82 rfl Tryz.sizeOf80 rfl (by first | exact Nat.zero_add _ | rfl)) ?_
    refine d_take 4 rfl rfl (by kernel_rfl) (by kernel_rfl) (by kernel_rfl) rfl hS (v_idxArr Tryz.underlying80 Tryz.sizeOf70 rfl rfl hni hi (by first | exact Nat.zero_add _ | rfl)) ?_
    refine d_take 5 rfl rfl (by kernel_rfl) (by kernel_rfl) (by kernel_rfl) rfl hS (v_loadAgg Tryz.isAgg70 Tryz.sizeOf70 rfl (cells_sc (k := 0) rfl) rfl) ?_
    refine d_take 6 rfl rfl (by kernel_rfl) (by kernel_rfl) (by kernel_rfl) rfl hS (v_move rfl) ?_
    refine d_take 7 rfl rfl (by kernel_rfl) (by kernel_rfl) (by kernel_rfl) rfl hS (v_move rfl) ?_
    refine d_take 8 rfl rfl (by kernel_rfl) (by kernel_rfl) (by kernel_rfl) rfl hS (v_nilCheck rfl) ?_
    refine d_take 9 rfl rfl (by kernel_rfl) (by kernel_rfl) (by kernel_rfl) rfl hS (v_fieldAddr rfl Tryz.underlying82 rfl Tryz.sizeOf41 rfl (by first | exact Nat.zero_add _ | rfl)) ?_
    refine d_take 10 rfl rfl (by kernel_rfl) (by kernel_rfl) (by kernel_rfl) rfl hS (v_idxArr Tryz.underlying41 Tryz.sizeOf4 rfl rfl hni hi (by first | exact Nat.zero_add _ | rfl)) ?_
    refine d_take 11 rfl rfl (by kernel_rfl) (by kernel_rfl) (by kernel_rfl) rfl hS (v_load Tryz.isAgg4 rfl (cell_sc1 (k := 1) rfl)) ?_
    refine d_one 12 (by kernel_rfl) rfl rfl (d_storeAll Tryz.sizeOf70 rfl rfl rfl rfl rfl) rfl ?_; clear hS
    rintro _ _ rfl
    refine ⟨(sc_cons (cells_part hpr rfl) (sc_cons (cells_part htr rfl) sc_end)), fun hS => ?_⟩
    refine d_take 13 rfl rfl (by kernel_rfl) (by kernel_rfl) (by kernel_rfl) rfl hS (v_assign rfl) ?_
    refine d_done (by kernel_rfl) ?_; clear hS
    refine n_then (x_ret (x_done (.inl rfl) (.cons (r_all Tryz.isAgg70 Tryz.sizeOf70 rfl rfl) (.cons (r_tmp rfl) .nil)) ?_))
    refine ⟨_, ⟨?_, rfl⟩, inferInstance⟩
    subst hni
    by_cases hz : plAt pg i = (0, 0)
    · have ht : thereB pg i = false := by simp [thereB, hz]
      simp [pack, gGot, ht, hz, thV]
    · have ht : thereB pg i = true := by simp [thereB, hz, hp]
      simp [pack, gGot, ht, hz, thV]
theorem rgAllows_spec (W0 : World) (R : List HP) (b : Nat) (pg : List Pl) (h : Pgs pg) (n kind : Int) : Spec Tryz.prog W0 82 [.pointer (some ⟨b, 0, none⟩), .int .i64 n, .int .i64 kind] (pt b (rgO pg) :: R)
    (fun v B => v = .int .i64 (alwE pg n kind) ∧ B = pt b (rgO pg) :: R) := by
  refine spec_body Tryz.func82 Tryz.ntmps82 rfl rfl ?_
  refine x_seq (x_region (s_val rfl (v_assign rfl) (x_nil (n_then (x_seq (x_region (s_val rfl (v_move rfl) (s_val rfl (v_move rfl) (s_do rfl (d_call1 Tryz.call83 rfl (rgGet_spec W0 _ b pg h n)) ?_)))))))))
  rintro _ B_ ⟨rfl, hB_⟩
  obtain rfl := hB_.symm
  refine s_val rfl (v_move rfl) (s_val rfl (v_extract rfl rfl) (s_val rfl (v_extract rfl rfl) (s_do rfl (d_allocA Tryz.zeroValue70) ?_)))
  rintro _ _ ⟨b1, rfl, rfl⟩
  refine s_do0 (d_storeAll Tryz.sizeOf70 rfl rfl rfl rfl rfl) ?_
  rintro _ _ rfl
  refine s_val rfl (v_assign rfl) (x_nil (n_then (x_seq (x_seq (x_region (s_val rfl (v_move rfl) (s_val rfl (v_not rfl) (x_nil (n_then ?_)))))))))
  refine x_if rfl ?_ ?_
  · intro c2
    refine x_seq (x_region (s_val rfl (v_assign rfl) (x_nil (n_then (x_ret (r_then (x_done (.inl rfl) (.cons (r_tmp rfl) .nil) ?_)))))))
    refine ⟨_, ⟨?_, rfl⟩, inferInstance⟩
    have ht : thereB pg n = false := by simpa using c2
    simp [pack, alwE, ht]
  · intro c2
    have ht : thereB pg n = true := by simpa using c2
    have hg := okPl_iff.1 (gGot_ok h ht)
    have hge : gGot pg n = plAt pg n.toNat := by simp [gGot, ht]
    refine x_skip (n_then (x_seq (x_seq (x_region (s_val rfl (v_move rfl) (s_val rfl (v_eql rfl rfl) (s_val rfl (v_move rfl) ?_)))))))
    refine s_and rfl rfl rfl ?_ ?_
    · intro g4_3
      refine s_val rfl (v_move rfl) (s_yes rfl rfl (s_val rfl (v_lss rfl rfl) (s_val rfl (v_pick_t rfl rfl) (s_val rfl (v_move rfl) ?_))))
      refine s_or rfl rfl rfl ?_ ?_
      · intro g4_7
        refine s_no rfl rfl rfl rfl (s_no rfl rfl rfl rfl (s_nou rfl rfl rfl (s_nou rfl rfl rfl (s_nou rfl rfl rfl (s_nou rfl rfl rfl (s_no rfl rfl rfl rfl (s_val rfl (v_pick_t rfl rfl) (s_val rfl (v_move rfl) (s_no rfl rfl rfl rfl (s_no rfl rfl rfl rfl (s_no rfl rfl rfl rfl (s_nou rfl rfl rfl (s_nou rfl rfl rfl (s_nou rfl rfl rfl (s_no rfl rfl rfl rfl (s_val rfl (v_pick_t rfl rfl) (x_nil (n_then (x_ift rfl (x_seq (x_region (s_val rfl (v_assign rfl) (x_nil ?_)))))))))))))))))))))))
        refine n_then (x_ret (r_then (x_done (.inl rfl) (.cons (r_tmp rfl) .nil) ?_)))
        refine ⟨_, ⟨?_, rfl⟩, inferInstance⟩
        have hm : mayB n (plAt pg n.toNat) kind = true := by
          rw [← hge]; simp only [mayB, decide_eq_true_eq]
          simp only [Int.tmod_eq_emod_of_nonneg (show 0 ≤ (gGot pg n).2 by omega)] at *
          omega
        simp [pack, alwE, ht, hm]
      · intro g4_7
        refine s_val rfl (v_move rfl) (s_yes rfl rfl (s_val rfl (v_eql rfl rfl) (s_yes rfl rfl (s_val rfl (v_move rfl) ?_))))
        refine s_and rfl rfl rfl ?_ ?_
        · intro g4_10
          refine s_val rfl (v_fieldAddr rfl Tryz.underlying70 rfl Tryz.sizeOf3 rfl (by first | exact Nat.zero_add _ | rfl)) ?_
          refine s_yes rfl rfl (s_val rfl (v_load Tryz.isAgg3 rfl (cell_own rfl)) ?_)
          refine s_yes rfl rfl ?_
          refine s_val rfl (v_rem rfl rfl (by decide) rfl) ?_
          refine s_yes rfl rfl (s_val rfl (v_eql rfl rfl) (s_yes rfl rfl (s_val rfl (v_pick_t rfl rfl) (s_val rfl (v_pick_f rfl rfl) (s_val rfl (v_move rfl) ?_)))))
          refine s_or rfl rfl rfl ?_ ?_
          · intro g4_17
            refine s_no rfl rfl rfl rfl (s_no rfl rfl rfl rfl (s_nou rfl rfl rfl (s_nou rfl rfl rfl (s_nou rfl rfl rfl (s_no rfl rfl rfl rfl (s_val rfl (v_pick_t rfl rfl) (x_nil (n_then (x_ift rfl (x_seq (x_region (s_val rfl (v_assign rfl) (x_nil (n_then (x_ret (r_then (x_done (.inl rfl) (.cons (r_tmp rfl) .nil) ?_)))))))))))))))))
            refine ⟨_, ⟨?_, rfl⟩, inferInstance⟩
            have hm : mayB n (plAt pg n.toNat) kind = true := by
              rw [← hge]; simp only [mayB, decide_eq_true_eq]
              simp only [Int.tmod_eq_emod_of_nonneg (show 0 ≤ (gGot pg n).2 by omega)] at *
              omega
            simp [pack, alwE, ht, hm]
          · intro g4_17
            refine s_val rfl (v_move rfl) (s_yes rfl rfl (s_val rfl (v_eql rfl rfl) (s_yes rfl rfl (s_val rfl (v_move rfl) ?_))))
            refine s_and rfl rfl rfl ?_ ?_
            · intro g4_20
              refine s_val rfl (v_fieldAddr rfl Tryz.underlying70 rfl Tryz.sizeOf3 rfl (by first | exact Nat.zero_add _ | rfl)) ?_
              refine s_yes rfl rfl (s_val rfl (v_load Tryz.isAgg3 rfl (cell_own rfl)) ?_)
              refine s_yes rfl rfl (s_val rfl (v_geq rfl rfl) (s_yes rfl rfl (s_val rfl (v_pick_t rfl rfl) (s_val rfl (v_pick_f rfl rfl) (x_nil (n_then ?_))))))
              refine x_if rfl ?_ ?_
              · intro c4
                refine x_seq (x_region (s_val rfl (v_assign rfl) (x_nil (n_then (x_ret (r_then (x_done (.inl rfl) (.cons (r_tmp rfl) .nil) ?_)))))))
                refine ⟨_, ⟨?_, rfl⟩, inferInstance⟩
                have hm : mayB n (plAt pg n.toNat) kind = true := by
                  rw [← hge]; simp only [mayB, decide_eq_true_eq]
                  simp only [Int.tmod_eq_emod_of_nonneg (show 0 ≤ (gGot pg n).2 by omega)] at *
                  omega
                simp [pack, alwE, ht, hm]
              · intro c4
                refine x_skip (n_then (x_seq (x_region (s_val rfl (v_assign rfl) (x_nil (n_then (x_ret (x_done (.inl rfl) (.cons (r_tmp rfl) .nil) ?_))))))))
                refine ⟨_, ⟨?_, rfl⟩, inferInstance⟩
                have hm : mayB n (plAt pg n.toNat) kind = false := by
                  rw [← hge, ← Bool.not_eq_true]; simp only [mayB, decide_eq_true_eq]
                  simp only [Int.tmod_eq_emod_of_nonneg (show 0 ≤ (gGot pg n).2 by omega)] at *
                  omega
                simp [pack, alwE, ht, hm]
            · intro g4_20
              refine s_no rfl rfl rfl rfl (s_no rfl rfl rfl rfl (s_yes rfl rfl (s_val rfl (v_pick_f rfl rfl) (s_val rfl (v_pick_f rfl rfl) (x_nil (n_then (x_iff rfl (x_skip (n_then (x_seq (x_region (s_val rfl (v_assign rfl) (x_nil (n_then (x_ret (x_done (.inl rfl) (.cons (r_tmp rfl) .nil) ?_))))))))))))))))
              refine ⟨_, ⟨?_, rfl⟩, inferInstance⟩
              have hm : mayB n (plAt pg n.toNat) kind = false := by
                rw [← hge, ← Bool.not_eq_true]; simp only [mayB, decide_eq_true_eq]
                simp only [Int.tmod_eq_emod_of_nonneg (show 0 ≤ (gGot pg n).2 by omega)] at *
                omega
              simp [pack, alwE, ht, hm]
        · intro g4_10
          refine s_no rfl rfl rfl rfl (s_no rfl rfl rfl rfl (s_no rfl rfl rfl rfl (s_yes rfl rfl (s_val rfl (v_pick_f rfl rfl) (s_val rfl (v_pick_f rfl rfl) (s_val rfl (v_move rfl) (s_yes rfl rfl (s_val rfl (v_move rfl) (s_yes rfl rfl (s_val rfl (v_eql rfl rfl) (s_yes rfl rfl (s_val rfl (v_move rfl) ?_))))))))))))
          refine s_and rfl rfl rfl ?_ ?_
          · intro g4_20
            refine s_val rfl (v_fieldAddr rfl Tryz.underlying70 rfl Tryz.sizeOf3 rfl (by first | exact Nat.zero_add _ | rfl)) ?_
            refine s_yes rfl rfl (s_val rfl (v_load Tryz.isAgg3 rfl (cell_own rfl)) ?_)
            refine s_yes rfl rfl (s_val rfl (v_geq rfl rfl) (s_yes rfl rfl (s_val rfl (v_pick_t rfl rfl) (s_val rfl (v_pick_f rfl rfl) (x_nil (n_then ?_))))))
            refine x_if rfl ?_ ?_
            · intro c4
              refine x_seq (x_region (s_val rfl (v_assign rfl) (x_nil (n_then (x_ret (r_then (x_done (.inl rfl) (.cons (r_tmp rfl) .nil) ?_)))))))
              refine ⟨_, ⟨?_, rfl⟩, inferInstance⟩
              have hm : mayB n (plAt pg n.toNat) kind = true := by
                rw [← hge]; simp only [mayB, decide_eq_true_eq]
                simp only [Int.tmod_eq_emod_of_nonneg (show 0 ≤ (gGot pg n).2 by omega)] at *
                omega
              simp [pack, alwE, ht, hm]
            · intro c4
              refine x_skip (n_then (x_seq (x_region (s_val rfl (v_assign rfl) (x_nil (n_then (x_ret (x_done (.inl rfl) (.cons (r_tmp rfl) .nil) ?_))))))))
              refine ⟨_, ⟨?_, rfl⟩, inferInstance⟩
              have hm : mayB n (plAt pg n.toNat) kind = false := by
                rw [← hge, ← Bool.not_eq_true]; simp only [mayB, decide_eq_true_eq]
                simp only [Int.tmod_eq_emod_of_nonneg (show 0 ≤ (gGot pg n).2 by omega)] at *
                omega
              simp [pack, alwE, ht, hm]
          · intro g4_20
            refine s_no rfl rfl rfl rfl (s_no rfl rfl rfl rfl (s_yes rfl rfl (s_val rfl (v_pick_f rfl rfl) (s_val rfl (v_pick_f rfl rfl) (x_nil (n_then (x_iff rfl (x_skip (n_then (x_seq (x_region (s_val rfl (v_assign rfl) (x_nil (n_then (x_ret (x_done (.inl rfl) (.cons (r_tmp rfl) .nil) ?_))))))))))))))))
            refine ⟨_, ⟨?_, rfl⟩, inferInstance⟩
            have hm : mayB n (plAt pg n.toNat) kind = false := by
              rw [← hge, ← Bool.not_eq_true]; simp only [mayB, decide_eq_true_eq]
              simp only [Int.tmod_eq_emod_of_nonneg (show 0 ≤ (gGot pg n).2 by omega)] at *
              omega
            simp [pack, alwE, ht, hm]
    · intro g4_3
      refine s_no rfl rfl rfl rfl (s_val rfl (v_pick_f rfl rfl) (s_val rfl (v_move rfl) (s_yes rfl rfl (s_val rfl (v_move rfl) (s_yes rfl rfl (s_val rfl (v_eql rfl rfl) (s_yes rfl rfl (s_val rfl (v_move rfl) ?_))))))))
      refine s_and rfl rfl rfl ?_ ?_
      · intro g4_10
        refine s_val rfl (v_fieldAddr rfl Tryz.underlying70 rfl Tryz.sizeOf3 rfl (by first | exact Nat.zero_add _ | rfl)) ?_
        refine s_yes rfl rfl (s_val rfl (v_load Tryz.isAgg3 rfl (cell_own rfl)) ?_)
        refine s_yes rfl rfl ?_
        refine s_val rfl (v_rem rfl rfl (by decide) rfl) ?_
        refine s_yes rfl rfl (s_val rfl (v_eql rfl rfl) (s_yes rfl rfl (s_val rfl (v_pick_t rfl rfl) (s_val rfl (v_pick_f rfl rfl) (s_val rfl (v_move rfl) ?_)))))
        refine s_or rfl rfl rfl ?_ ?_
        · intro g4_17
          refine s_no rfl rfl rfl rfl (s_no rfl rfl rfl rfl (s_nou rfl rfl rfl (s_nou rfl rfl rfl (s_nou rfl rfl rfl (s_no rfl rfl rfl rfl (s_val rfl (v_pick_t rfl rfl) (x_nil (n_then (x_ift rfl (x_seq (x_region (s_val rfl (v_assign rfl) (x_nil (n_then (x_ret (r_then (x_done (.inl rfl) (.cons (r_tmp rfl) .nil) ?_)))))))))))))))))
          refine ⟨_, ⟨?_, rfl⟩, inferInstance⟩
          have hm : mayB n (plAt pg n.toNat) kind = true := by
            rw [← hge]; simp only [mayB, decide_eq_true_eq]
            simp only [Int.tmod_eq_emod_of_nonneg (show 0 ≤ (gGot pg n).2 by omega)] at *
            omega
          simp [pack, alwE, ht, hm]
        · intro g4_17
          refine s_val rfl (v_move rfl) (s_yes rfl rfl (s_val rfl (v_eql rfl rfl) (s_yes rfl rfl (s_val rfl (v_move rfl) ?_))))
          refine s_and rfl rfl rfl ?_ ?_
          · intro g4_20
            refine s_val rfl (v_fieldAddr rfl Tryz.underlying70 rfl Tryz.sizeOf3 rfl (by first | exact Nat.zero_add _ | rfl)) ?_
            refine s_yes rfl rfl (s_val rfl (v_load Tryz.isAgg3 rfl (cell_own rfl)) ?_)
            refine s_yes rfl rfl (s_val rfl (v_geq rfl rfl) (s_yes rfl rfl (s_val rfl (v_pick_t rfl rfl) (s_val rfl (v_pick_f rfl rfl) (x_nil (n_then ?_))))))
            refine x_if rfl ?_ ?_
            · intro c4
              refine x_seq (x_region (s_val rfl (v_assign rfl) (x_nil (n_then (x_ret (r_then (x_done (.inl rfl) (.cons (r_tmp rfl) .nil) ?_)))))))
              refine ⟨_, ⟨?_, rfl⟩, inferInstance⟩
              have hm : mayB n (plAt pg n.toNat) kind = true := by
                rw [← hge]; simp only [mayB, decide_eq_true_eq]
                simp only [Int.tmod_eq_emod_of_nonneg (show 0 ≤ (gGot pg n).2 by omega)] at *
                omega
              simp [pack, alwE, ht, hm]
            · intro c4
              refine x_skip (n_then (x_seq (x_region (s_val rfl (v_assign rfl) (x_nil (n_then (x_ret (x_done (.inl rfl) (.cons (r_tmp rfl) .nil) ?_))))))))
              refine ⟨_, ⟨?_, rfl⟩, inferInstance⟩
              have hm : mayB n (plAt pg n.toNat) kind = false := by
                rw [← hge, ← Bool.not_eq_true]; simp only [mayB, decide_eq_true_eq]
                simp only [Int.tmod_eq_emod_of_nonneg (show 0 ≤ (gGot pg n).2 by omega)] at *
                omega
              simp [pack, alwE, ht, hm]
          · intro g4_20
            refine s_no rfl rfl rfl rfl (s_no rfl rfl rfl rfl (s_yes rfl rfl (s_val rfl (v_pick_f rfl rfl) (s_val rfl (v_pick_f rfl rfl) (x_nil (n_then (x_iff rfl (x_skip (n_then (x_seq (x_region (s_val rfl (v_assign rfl) (x_nil (n_then (x_ret (x_done (.inl rfl) (.cons (r_tmp rfl) .nil) ?_))))))))))))))))
            refine ⟨_, ⟨?_, rfl⟩, inferInstance⟩
            have hm : mayB n (plAt pg n.toNat) kind = false := by
              rw [← hge, ← Bool.not_eq_true]; simp only [mayB, decide_eq_true_eq]
              simp only [Int.tmod_eq_emod_of_nonneg (show 0 ≤ (gGot pg n).2 by omega)] at *
              omega
            simp [pack, alwE, ht, hm]
      · intro g4_10
        refine s_no rfl rfl rfl rfl (s_no rfl rfl rfl rfl (s_no rfl rfl rfl rfl (s_yes rfl rfl (s_val rfl (v_pick_f rfl rfl) (s_val rfl (v_pick_f rfl rfl) (s_val rfl (v_move rfl) (s_yes rfl rfl (s_val rfl (v_move rfl) (s_yes rfl rfl (s_val rfl (v_eql rfl rfl) (s_yes rfl rfl (s_val rfl (v_move rfl) ?_))))))))))))
        refine s_and rfl rfl rfl ?_ ?_
        · intro g4_20
          refine s_val rfl (v_fieldAddr rfl Tryz.underlying70 rfl Tryz.sizeOf3 rfl (by first | exact Nat.zero_add _ | rfl)) ?_
          refine s_yes rfl rfl (s_val rfl (v_load Tryz.isAgg3 rfl (cell_own rfl)) ?_)
          refine s_yes rfl rfl (s_val rfl (v_geq rfl rfl) (s_yes rfl rfl (s_val rfl (v_pick_t rfl rfl) (s_val rfl (v_pick_f rfl rfl) (x_nil (n_then ?_))))))
          refine x_if rfl ?_ ?_
          · intro c4
            refine x_seq (x_region (s_val rfl (v_assign rfl) (x_nil (n_then (x_ret (r_then (x_done (.inl rfl) (.cons (r_tmp rfl) .nil) ?_)))))))
            refine ⟨_, ⟨?_, rfl⟩, inferInstance⟩
            have hm : mayB n (plAt pg n.toNat) kind = true := by
              rw [← hge]; simp only [mayB, decide_eq_true_eq]
              simp only [Int.tmod_eq_emod_of_nonneg (show 0 ≤ (gGot pg n).2 by omega)] at *
              omega
            simp [pack, alwE, ht, hm]
          · intro c4
            refine x_skip (n_then (x_seq (x_region (s_val rfl (v_assign rfl) (x_nil (n_then (x_ret (x_done (.inl rfl) (.cons (r_tmp rfl) .nil) ?_))))))))
            refine ⟨_, ⟨?_, rfl⟩, inferInstance⟩
            have hm : mayB n (plAt pg n.toNat) kind = false := by
              rw [← hge, ← Bool.not_eq_true]; simp only [mayB, decide_eq_true_eq]
              simp only [Int.tmod_eq_emod_of_nonneg (show 0 ≤ (gGot pg n).2 by omega)] at *
              omega
            simp [pack, alwE, ht, hm]
        · intro g4_20
          refine s_no rfl rfl rfl rfl (s_no rfl rfl rfl rfl (s_yes rfl rfl (s_val rfl (v_pick_f rfl rfl) (s_val rfl (v_pick_f rfl rfl) (x_nil (n_then (x_iff rfl (x_skip (n_then (x_seq (x_region (s_val rfl (v_assign rfl) (x_nil (n_then (x_ret (x_done (.inl rfl) (.cons (r_tmp rfl) .nil) ?_))))))))))))))))
          refine ⟨_, ⟨?_, rfl⟩, inferInstance⟩
          have hm : mayB n (plAt pg n.toNat) kind = false := by
            rw [← hge, ← Bool.not_eq_true]; simp only [mayB, decide_eq_true_eq]
            simp only [Int.tmod_eq_emod_of_nonneg (show 0 ≤ (gGot pg n).2 by omega)] at *
            omega
          simp [pack, alwE, ht, hm]
end Go.Proofs.YtllkdnadmmjehaaGreatDoor
namespace Go.Proofs.YtllkdnadmmjehaaGreatDoor
open Go.RowKit
set_option linter.unusedSimpArgs false
set_option linter.unusedVariables false
set_option maxRecDepth 20000
theorem isF_iff {n : Nat} {f : Int} : isF n f = true ↔ 0 ≤ f ∧ f < n := by simp [isF]
def wrV (d : Nat) : List Value := (List.range 12).map (fun i => .bool (Nat.testBit d i))
abbrev rvO (qs qm d : Nat) : Obj := cob (.pointer (some ⟨qs, 0, none⟩) :: .pointer (some ⟨qm, 0, none⟩) :: wrV d) 43
theorem rvFind_spec (W0 : World) (R : List HP) (qv qs qm d : Nat) (fr : List Frm) (pg : List Pl) (h : Pgs pg) (pa : Nat) (hpa : pa < 4294967296) (w kind : Int) :
    Spec Tryz.prog W0 46 [.pointer (some ⟨qv, 0, none⟩), .int .u32 pa, .int .i64 w, .int .i64 kind] (pt qv (rvO qs qm d) :: rstoH qs fr :: pt qm (rgO pg) :: R)
      (fun v B => v = .tuple #[.agg (fndV fr.length pg pa w kind).toArray, .int .i64 (fndE fr.length pg pa w kind)] ∧ B = pt qv (rvO qs qm d) :: rstoH qs fr :: pt qm (rgO pg) :: R) := by
  refine spec_body Tryz.func46 Tryz.ntmps46 rfl rfl ?_
  refine x_seq (x_region (s_do rfl (d_allocA Tryz.zeroValue54) ?_))
  rintro _ _ ⟨b1, rfl, rfl⟩
  refine s_val rfl (v_assign rfl) (x_nil (n_then (x_seq (x_seq (x_region (s_val rfl (v_move rfl) (s_val rfl (v_neq rfl rfl) (s_val rfl (v_move rfl) ?_))))))))
  refine s_and rfl rfl rfl ?_ ?_
  · intro g1_3
    refine s_val rfl (v_move rfl) (s_yes rfl rfl (s_val rfl (v_neq rfl rfl) (s_val rfl (v_pick_t rfl rfl) (s_val rfl (v_move rfl) ?_))))
    refine s_and rfl rfl rfl ?_ ?_
    · intro g1_7
      refine s_val rfl (v_move rfl) (s_yes rfl rfl (s_val rfl (v_neq rfl rfl) (s_val rfl (v_pick_t rfl rfl) (s_val rfl (v_move rfl) ?_))))
      refine s_or rfl rfl rfl ?_ ?_
      · intro g1_11
        refine s_no rfl rfl rfl rfl (s_no rfl rfl rfl rfl (s_no rfl rfl rfl rfl (s_no rfl rfl rfl rfl (s_val rfl (v_pick_t rfl rfl) (x_nil (n_then (x_ift rfl (x_seq (x_region (s_val rfl (v_build Tryz.underlying54 Tryz.zeroValue54 (sized_cons Tryz.sizeOf3 (sized_cons Tryz.sizeOf3 (sized_cons Tryz.sizeOf3 (sized_cons Tryz.sizeOf4 sized_nil)))) fil_nil) ?_))))))))))
        refine s_do0 (d_storeAll Tryz.sizeOf54 rfl rfl rfl rfl rfl) ?_
        rintro _ _ rfl
        refine s_val rfl (v_assign rfl) (x_nil (n_then (x_ret (r_then (x_done (.inl rfl) (.cons (r_all Tryz.isAgg54 Tryz.sizeOf54 rfl rfl) (.cons (r_tmp rfl) .nil)) ?_)))))
        refine ⟨_, ⟨?_, rfl⟩, inferInstance⟩
        have ha : alB pa w = false := by
          rw [← Bool.not_eq_true]; simp only [alB, decide_eq_true_eq]
          rintro ⟨q1, q2⟩
          first
            | omega
            | (rcases q1 with rfl | rfl | rfl <;> omega)
        have he : fndE fr.length pg pa w kind = 1 := by simp [fndE, ha]
        simp [pack, fndV, he]
      · intro g1_11
        refine s_val rfl (v_move rfl) (s_yes rfl rfl (s_val rfl (v_move rfl) (s_yes rfl rfl ?_)))
        refine s_val rfl (v_conv Tryz.underlying3 Tryz.underlying31 rfl (w32u (by omega))) ?_
        refine s_yes rfl rfl ?_
        refine s_val rfl (v_rem rfl rfl (by omega) (Int.tmod_eq_emod_of_nonneg (by omega))) ?_
        refine s_yes rfl rfl (s_val rfl (v_neq rfl rfl) (s_val rfl (v_pick_f rfl rfl) (x_nil (n_then ?_))))
        refine x_if rfl ?_ ?_
        · intro c1
          refine x_seq (x_region (s_val rfl (v_build Tryz.underlying54 Tryz.zeroValue54 (sized_cons Tryz.sizeOf3 (sized_cons Tryz.sizeOf3 (sized_cons Tryz.sizeOf3 (sized_cons Tryz.sizeOf4 sized_nil)))) fil_nil) ?_))
          refine s_do0 (d_storeAll Tryz.sizeOf54 rfl rfl rfl rfl rfl) ?_
          rintro _ _ rfl
          refine s_val rfl (v_assign rfl) (x_nil (n_then (x_ret (r_then (x_done (.inl rfl) (.cons (r_all Tryz.isAgg54 Tryz.sizeOf54 rfl rfl) (.cons (r_tmp rfl) .nil)) ?_)))))
          refine ⟨_, ⟨?_, rfl⟩, inferInstance⟩
          have ha : alB pa w = false := by
            rw [← Bool.not_eq_true]; simp only [alB, decide_eq_true_eq]
            rintro ⟨q1, q2⟩
            first
              | omega
              | (rcases q1 with rfl | rfl | rfl <;> omega)
          have he : fndE fr.length pg pa w kind = 1 := by simp [fndE, ha]
          simp [pack, fndV, he]
        · intro c1
          have ha : alB pa w = true := by
            simp only [alB, decide_eq_true_eq]
            refine ⟨by omega, ?_⟩
            have : w = 1 ∨ w = 2 ∨ w = 4 := by omega
            rcases this with rfl | rfl | rfl <;> omega
          refine x_skip (n_then (x_seq (x_seq (x_region (s_val rfl (v_move rfl) (s_val rfl (v_geq rfl rfl) (x_nil (n_then ?_))))))))
          refine x_if rfl ?_ ?_
          · intro c3
            refine x_seq (x_region (s_val rfl (v_build Tryz.underlying54 Tryz.zeroValue54 (sized_cons Tryz.sizeOf3 (sized_cons Tryz.sizeOf3 (sized_cons Tryz.sizeOf3 (sized_cons Tryz.sizeOf4 sized_nil)))) fil_nil) ?_))
            refine s_do0 (d_storeAll Tryz.sizeOf54 rfl rfl rfl rfl rfl) ?_
            rintro _ _ rfl
            refine s_val rfl (v_assign rfl) (x_nil (n_then (x_ret (r_then (x_done (.inl rfl) (.cons (r_all Tryz.isAgg54 Tryz.sizeOf54 rfl rfl) (.cons (r_tmp rfl) .nil)) ?_)))))
            refine ⟨_, ⟨?_, rfl⟩, inferInstance⟩
            have he : fndE fr.length pg pa w kind = 2 := by unfold fndE; rw [if_pos ha, if_neg (by omega)]
            simp [pack, fndV, he]
          · intro c3
            refine x_skip (n_then (x_seq (x_region (s_val rfl (v_move rfl) ?_))))
            refine s_val rfl (v_quo rfl rfl (by decide) ((congrArg (IntKind.wrap .u32) (tdivN pa 64)).trans (w32u (by omega)))) ?_
            refine s_val rfl (v_conv Tryz.underlying31 Tryz.underlying3 rfl (w64 (by omega))) ?_
            refine s_val rfl (v_assign rfl) (x_nil (n_then (x_seq (x_region (s_val rfl (v_move rfl) (s_val rfl (v_nilCheck rfl) ?_))))))
            refine s_val rfl (v_fieldAddr rfl Tryz.underlying43 rfl Tryz.sizeOf40 rfl (by first | exact Nat.zero_add _ | rfl)) ?_
            refine s_val rfl (v_load Tryz.isAgg40 rfl (cell_own rfl)) ?_
            refine s_val rfl (v_move rfl) (s_val rfl (v_move rfl) (s_do rfl (d_call1 Tryz.call82 rfl (rgAllows_spec W0 _ qm pg h ((pa / 64 : Nat) : Int) kind)) ?_))
            rintro _ B_ ⟨rfl, hB_⟩
            obtain rfl := hB_.symm
            refine s_val rfl (v_assign rfl) (x_nil (n_then (x_seq (x_seq (x_region (s_val rfl (v_move rfl) (s_val rfl (v_neq rfl rfl) (x_nil (n_then ?_)))))))))
            refine x_if rfl ?_ ?_
            · intro c7
              refine x_seq (x_region (s_val rfl (v_build Tryz.underlying54 Tryz.zeroValue54 (sized_cons Tryz.sizeOf3 (sized_cons Tryz.sizeOf3 (sized_cons Tryz.sizeOf3 (sized_cons Tryz.sizeOf4 sized_nil)))) fil_nil) ?_))
              refine s_val rfl (v_move rfl) (s_do0 (d_storeAll Tryz.sizeOf54 rfl rfl rfl rfl rfl) ?_)
              rintro _ _ rfl
              refine s_val rfl (v_assign rfl) (x_nil (n_then (x_ret (r_then (x_done (.inl rfl) (.cons (r_all Tryz.isAgg54 Tryz.sizeOf54 rfl rfl) (.cons (r_tmp rfl) .nil)) ?_)))))
              refine ⟨_, ⟨?_, rfl⟩, inferInstance⟩
              have he : fndE fr.length pg pa w kind = alwE pg ((pa / 64 : Nat) : Int) kind := by unfold fndE; rw [if_pos ha, if_pos (by omega), if_neg c7]
              rw [fndV, if_neg (by rw [he]; exact c7), he]; rfl
            · intro c7
              have hz : alwE pg ((pa / 64 : Nat) : Int) kind = 0 := by simpa using c7
              have hth : thereB pg ((pa / 64 : Nat) : Int) = true := by
                unfold alwE at hz; split at hz
                · assumption
                · omega
              have hk := okPl_iff.1 (gGot_ok h hth)
              refine x_skip (n_then (x_seq (x_region (s_val rfl (v_move rfl) (s_val rfl (v_nilCheck rfl) ?_)))))
              refine s_val rfl (v_fieldAddr rfl Tryz.underlying43 rfl Tryz.sizeOf40 rfl (by first | exact Nat.zero_add _ | rfl)) ?_
              refine s_val rfl (v_load Tryz.isAgg40 rfl (cell_own rfl)) ?_
              refine s_val rfl (v_move rfl) (s_do rfl (d_call1 Tryz.call83 rfl (rgGet_spec W0 _ qm pg h ((pa / 64 : Nat) : Int))) ?_)
              rintro _ B_ ⟨rfl, hB_⟩
              obtain rfl := hB_.symm
              refine s_val rfl (v_move rfl) (s_val rfl (v_extract rfl rfl) (s_val rfl (v_extract rfl rfl) (s_do rfl (d_allocA Tryz.zeroValue70) ?_)))
              rintro _ _ ⟨bp, rfl, rfl⟩
              refine s_do0 (d_storeAll Tryz.sizeOf70 rfl rfl rfl rfl rfl) ?_
              rintro _ _ rfl
              refine s_val rfl (v_assign rfl) (x_nil (n_then (x_seq (x_seq ?_))))
              refine x_draw [(bp, 0, _), (qv, 0, _)] 8 mixed rfl (sc_own (sc_own sc_end)) (fun hS => ?_)
              refine d_take 0 rfl rfl (by kernel_rfl) (by kernel_rfl) (by kernel_rfl) rfl hS (v_move rfl) ?_
              refine d_take 1 rfl rfl (by kernel_rfl) (by kernel_rfl) (by kernel_rfl) rfl hS (v_nilCheck rfl) ?_
              refine d_take 2 rfl rfl (by kernel_rfl) (by kernel_rfl) (by kernel_rfl) rfl hS (v_fieldAddr rfl Tryz.underlying43 rfl Tryz.sizeOf39 rfl (by first | exact Nat.zero_add _ | rfl)) ?_
              refine d_take 3 rfl rfl (by kernel_rfl) (by kernel_rfl) (by kernel_rfl) rfl hS (v_load Tryz.isAgg39 rfl (by first | exact cell_sc0 (k := 0) rfl rfl | exact cell_sc0 (k := 1) rfl rfl)) ?_
              refine d_take 4 rfl rfl (by kernel_rfl) (by kernel_rfl) (by kernel_rfl) rfl hS (v_fieldAddr rfl Tryz.underlying70 rfl Tryz.sizeOf3 rfl (by first | exact Nat.zero_add _ | rfl)) ?_
              refine d_take 5 rfl rfl (by kernel_rfl) (by kernel_rfl) (by kernel_rfl) rfl hS (v_load Tryz.isAgg3 rfl (by first | exact cell_sc0 (k := 0) rfl rfl | exact cell_sc0 (k := 1) rfl rfl)) ?_
              refine d_one 6 (by kernel_rfl) rfl rfl (d_call1 Tryz.call64 rfl (rfIs_spec W0 _ qs fr _)) rfl ?_; clear hS
              rintro _ B_ ⟨rfl, hB_⟩
              obtain rfl := hB_.symm
              refine ⟨(sc_own (sc_own sc_end)), fun hS => ?_⟩
              refine d_take 7 rfl rfl (by kernel_rfl) (by kernel_rfl) (by kernel_rfl) rfl hS (v_not rfl) ?_
              refine d_done (by kernel_rfl) ?_; clear hS
              refine n_then ?_
              refine x_if rfl ?_ ?_
              · intro c10
                refine x_seq (x_region (s_val rfl (v_build Tryz.underlying54 Tryz.zeroValue54 (sized_cons Tryz.sizeOf3 (sized_cons Tryz.sizeOf3 (sized_cons Tryz.sizeOf3 (sized_cons Tryz.sizeOf4 sized_nil)))) fil_nil) ?_))
                refine s_do0 (d_storeAll Tryz.sizeOf54 rfl rfl rfl rfl rfl) ?_
                rintro _ _ rfl
                refine s_val rfl (v_assign rfl) (x_nil (n_then (x_ret (r_then (x_done (.inl rfl) (.cons (r_all Tryz.isAgg54 Tryz.sizeOf54 rfl rfl) (.cons (r_tmp rfl) .nil)) ?_)))))
                refine ⟨_, ⟨?_, rfl⟩, inferInstance⟩
                have hn : ¬ (gGot pg ((pa / 64 : Nat) : Int)).1 < fr.length := by
                  rw [isF_iff] at c10; omega
                have he : fndE fr.length pg pa w kind = 7 := by unfold fndE; rw [if_pos ha, if_pos (by omega), if_pos hz, if_neg hn]
                simp [pack, fndV, he]
              · intro c10
                refine x_skip (n_then (x_seq (x_region (s_val rfl (v_move rfl) ?_))))
                refine s_val rfl (v_fieldAddr rfl Tryz.underlying70 rfl Tryz.sizeOf3 rfl (by first | exact Nat.zero_add _ | rfl)) ?_
                refine s_val rfl (v_load Tryz.isAgg3 rfl (cell_own rfl)) ?_
                refine s_val rfl (v_move rfl) ?_
                refine s_val rfl (v_rem rfl rfl (by decide) (tmodN pa 64)) ?_
                refine s_val rfl (v_conv Tryz.underlying31 Tryz.underlying3 rfl (w64 (by omega))) ?_
                refine s_val rfl (v_build Tryz.underlying54 Tryz.zeroValue54 (sized_cons Tryz.sizeOf3 (sized_cons Tryz.sizeOf3 (sized_cons Tryz.sizeOf3 (sized_cons Tryz.sizeOf4 sized_nil)))) (fil_scal rfl Tryz.sizeOf3 rfl rfl (Nat.le_of_ble_eq_true rfl) SetL.eq (fil_scal rfl Tryz.sizeOf3 rfl rfl (Nat.le_of_ble_eq_true rfl) SetL.eq (fil_scal rfl Tryz.sizeOf3 rfl rfl (Nat.le_of_ble_eq_true rfl) SetL.eq fil_nil)))) ?_
                refine s_do0 (d_storeAll Tryz.sizeOf54 rfl rfl rfl rfl rfl) ?_
                rintro _ _ rfl
                refine s_val rfl (v_assign rfl) (x_nil (n_then (x_ret (x_done (.inl rfl) (.cons (r_all Tryz.isAgg54 Tryz.sizeOf54 rfl rfl) (.cons (r_tmp rfl) .nil)) ?_))))
                refine ⟨_, ⟨?_, rfl⟩, inferInstance⟩
                have hn : (gGot pg ((pa / 64 : Nat) : Int)).1 < fr.length := by
                  rw [isF_iff] at c10; omega
                have he : fndE fr.length pg pa w kind = 0 := by unfold fndE; rw [if_pos ha, if_pos (by omega), if_pos hz, if_pos hn]
                simp [pack, fndV, he]
    · intro g1_7
      refine s_no rfl rfl rfl rfl (s_val rfl (v_pick_f rfl rfl) (s_val rfl (v_move rfl) (s_yes rfl rfl (s_val rfl (v_move rfl) (s_yes rfl rfl (s_val rfl (v_move rfl) (s_yes rfl rfl ?_)))))))
      refine s_val rfl (v_conv Tryz.underlying3 Tryz.underlying31 rfl (w32u (by omega))) ?_
      refine s_yes rfl rfl ?_
      refine s_val rfl (v_rem rfl rfl (by omega) (Int.tmod_eq_emod_of_nonneg (by omega))) ?_
      refine s_yes rfl rfl (s_val rfl (v_neq rfl rfl) (s_val rfl (v_pick_f rfl rfl) (x_nil (n_then ?_))))
      refine x_if rfl ?_ ?_
      · intro c1
        refine x_seq (x_region (s_val rfl (v_build Tryz.underlying54 Tryz.zeroValue54 (sized_cons Tryz.sizeOf3 (sized_cons Tryz.sizeOf3 (sized_cons Tryz.sizeOf3 (sized_cons Tryz.sizeOf4 sized_nil)))) fil_nil) ?_))
        refine s_do0 (d_storeAll Tryz.sizeOf54 rfl rfl rfl rfl rfl) ?_
        rintro _ _ rfl
        refine s_val rfl (v_assign rfl) (x_nil (n_then (x_ret (r_then (x_done (.inl rfl) (.cons (r_all Tryz.isAgg54 Tryz.sizeOf54 rfl rfl) (.cons (r_tmp rfl) .nil)) ?_)))))
        refine ⟨_, ⟨?_, rfl⟩, inferInstance⟩
        have ha : alB pa w = false := by
          rw [← Bool.not_eq_true]; simp only [alB, decide_eq_true_eq]
          rintro ⟨q1, q2⟩
          first
            | omega
            | (rcases q1 with rfl | rfl | rfl <;> omega)
        have he : fndE fr.length pg pa w kind = 1 := by simp [fndE, ha]
        simp [pack, fndV, he]
      · intro c1
        have ha : alB pa w = true := by
          simp only [alB, decide_eq_true_eq]
          refine ⟨by omega, ?_⟩
          have : w = 1 ∨ w = 2 ∨ w = 4 := by omega
          rcases this with rfl | rfl | rfl <;> omega
        refine x_skip (n_then (x_seq (x_seq (x_region (s_val rfl (v_move rfl) (s_val rfl (v_geq rfl rfl) (x_nil (n_then ?_))))))))
        refine x_if rfl ?_ ?_
        · intro c3
          refine x_seq (x_region (s_val rfl (v_build Tryz.underlying54 Tryz.zeroValue54 (sized_cons Tryz.sizeOf3 (sized_cons Tryz.sizeOf3 (sized_cons Tryz.sizeOf3 (sized_cons Tryz.sizeOf4 sized_nil)))) fil_nil) ?_))
          refine s_do0 (d_storeAll Tryz.sizeOf54 rfl rfl rfl rfl rfl) ?_
          rintro _ _ rfl
          refine s_val rfl (v_assign rfl) (x_nil (n_then (x_ret (r_then (x_done (.inl rfl) (.cons (r_all Tryz.isAgg54 Tryz.sizeOf54 rfl rfl) (.cons (r_tmp rfl) .nil)) ?_)))))
          refine ⟨_, ⟨?_, rfl⟩, inferInstance⟩
          have he : fndE fr.length pg pa w kind = 2 := by unfold fndE; rw [if_pos ha, if_neg (by omega)]
          simp [pack, fndV, he]
        · intro c3
          refine x_skip (n_then (x_seq (x_region (s_val rfl (v_move rfl) ?_))))
          refine s_val rfl (v_quo rfl rfl (by decide) ((congrArg (IntKind.wrap .u32) (tdivN pa 64)).trans (w32u (by omega)))) ?_
          refine s_val rfl (v_conv Tryz.underlying31 Tryz.underlying3 rfl (w64 (by omega))) ?_
          refine s_val rfl (v_assign rfl) (x_nil (n_then (x_seq (x_region (s_val rfl (v_move rfl) (s_val rfl (v_nilCheck rfl) ?_))))))
          refine s_val rfl (v_fieldAddr rfl Tryz.underlying43 rfl Tryz.sizeOf40 rfl (by first | exact Nat.zero_add _ | rfl)) ?_
          refine s_val rfl (v_load Tryz.isAgg40 rfl (cell_own rfl)) ?_
          refine s_val rfl (v_move rfl) (s_val rfl (v_move rfl) (s_do rfl (d_call1 Tryz.call82 rfl (rgAllows_spec W0 _ qm pg h ((pa / 64 : Nat) : Int) kind)) ?_))
          rintro _ B_ ⟨rfl, hB_⟩
          obtain rfl := hB_.symm
          refine s_val rfl (v_assign rfl) (x_nil (n_then (x_seq (x_seq (x_region (s_val rfl (v_move rfl) (s_val rfl (v_neq rfl rfl) (x_nil (n_then ?_)))))))))
          refine x_if rfl ?_ ?_
          · intro c7
            refine x_seq (x_region (s_val rfl (v_build Tryz.underlying54 Tryz.zeroValue54 (sized_cons Tryz.sizeOf3 (sized_cons Tryz.sizeOf3 (sized_cons Tryz.sizeOf3 (sized_cons Tryz.sizeOf4 sized_nil)))) fil_nil) ?_))
            refine s_val rfl (v_move rfl) (s_do0 (d_storeAll Tryz.sizeOf54 rfl rfl rfl rfl rfl) ?_)
            rintro _ _ rfl
            refine s_val rfl (v_assign rfl) (x_nil (n_then (x_ret (r_then (x_done (.inl rfl) (.cons (r_all Tryz.isAgg54 Tryz.sizeOf54 rfl rfl) (.cons (r_tmp rfl) .nil)) ?_)))))
            refine ⟨_, ⟨?_, rfl⟩, inferInstance⟩
            have he : fndE fr.length pg pa w kind = alwE pg ((pa / 64 : Nat) : Int) kind := by unfold fndE; rw [if_pos ha, if_pos (by omega), if_neg c7]
            rw [fndV, if_neg (by rw [he]; exact c7), he]; rfl
          · intro c7
            have hz : alwE pg ((pa / 64 : Nat) : Int) kind = 0 := by simpa using c7
            have hth : thereB pg ((pa / 64 : Nat) : Int) = true := by
              unfold alwE at hz; split at hz
              · assumption
              · omega
            have hk := okPl_iff.1 (gGot_ok h hth)
            refine x_skip (n_then (x_seq (x_region (s_val rfl (v_move rfl) (s_val rfl (v_nilCheck rfl) ?_)))))
            refine s_val rfl (v_fieldAddr rfl Tryz.underlying43 rfl Tryz.sizeOf40 rfl (by first | exact Nat.zero_add _ | rfl)) ?_
            refine s_val rfl (v_load Tryz.isAgg40 rfl (cell_own rfl)) ?_
            refine s_val rfl (v_move rfl) (s_do rfl (d_call1 Tryz.call83 rfl (rgGet_spec W0 _ qm pg h ((pa / 64 : Nat) : Int))) ?_)
            rintro _ B_ ⟨rfl, hB_⟩
            obtain rfl := hB_.symm
            refine s_val rfl (v_move rfl) (s_val rfl (v_extract rfl rfl) (s_val rfl (v_extract rfl rfl) (s_do rfl (d_allocA Tryz.zeroValue70) ?_)))
            rintro _ _ ⟨bp, rfl, rfl⟩
            refine s_do0 (d_storeAll Tryz.sizeOf70 rfl rfl rfl rfl rfl) ?_
            rintro _ _ rfl
            refine s_val rfl (v_assign rfl) (x_nil (n_then (x_seq (x_seq ?_))))
            refine x_draw [(bp, 0, _), (qv, 0, _)] 8 mixed rfl (sc_own (sc_own sc_end)) (fun hS => ?_)
            refine d_take 0 rfl rfl (by kernel_rfl) (by kernel_rfl) (by kernel_rfl) rfl hS (v_move rfl) ?_
            refine d_take 1 rfl rfl (by kernel_rfl) (by kernel_rfl) (by kernel_rfl) rfl hS (v_nilCheck rfl) ?_
            refine d_take 2 rfl rfl (by kernel_rfl) (by kernel_rfl) (by kernel_rfl) rfl hS (v_fieldAddr rfl Tryz.underlying43 rfl Tryz.sizeOf39 rfl (by first | exact Nat.zero_add _ | rfl)) ?_
            refine d_take 3 rfl rfl (by kernel_rfl) (by kernel_rfl) (by kernel_rfl) rfl hS (v_load Tryz.isAgg39 rfl (by first | exact cell_sc0 (k := 0) rfl rfl | exact cell_sc0 (k := 1) rfl rfl)) ?_
            refine d_take 4 rfl rfl (by kernel_rfl) (by kernel_rfl) (by kernel_rfl) rfl hS (v_fieldAddr rfl Tryz.underlying70 rfl Tryz.sizeOf3 rfl (by first | exact Nat.zero_add _ | rfl)) ?_
            refine d_take 5 rfl rfl (by kernel_rfl) (by kernel_rfl) (by kernel_rfl) rfl hS (v_load Tryz.isAgg3 rfl (by first | exact cell_sc0 (k := 0) rfl rfl | exact cell_sc0 (k := 1) rfl rfl)) ?_
            refine d_one 6 (by kernel_rfl) rfl rfl (d_call1 Tryz.call64 rfl (rfIs_spec W0 _ qs fr _)) rfl ?_; clear hS
            rintro _ B_ ⟨rfl, hB_⟩
            obtain rfl := hB_.symm
            refine ⟨(sc_own (sc_own sc_end)), fun hS => ?_⟩
            refine d_take 7 rfl rfl (by kernel_rfl) (by kernel_rfl) (by kernel_rfl) rfl hS (v_not rfl) ?_
            refine d_done (by kernel_rfl) ?_; clear hS
            refine n_then ?_
            refine x_if rfl ?_ ?_
            · intro c10
              refine x_seq (x_region (s_val rfl (v_build Tryz.underlying54 Tryz.zeroValue54 (sized_cons Tryz.sizeOf3 (sized_cons Tryz.sizeOf3 (sized_cons Tryz.sizeOf3 (sized_cons Tryz.sizeOf4 sized_nil)))) fil_nil) ?_))
              refine s_do0 (d_storeAll Tryz.sizeOf54 rfl rfl rfl rfl rfl) ?_
              rintro _ _ rfl
              refine s_val rfl (v_assign rfl) (x_nil (n_then (x_ret (r_then (x_done (.inl rfl) (.cons (r_all Tryz.isAgg54 Tryz.sizeOf54 rfl rfl) (.cons (r_tmp rfl) .nil)) ?_)))))
              refine ⟨_, ⟨?_, rfl⟩, inferInstance⟩
              have hn : ¬ (gGot pg ((pa / 64 : Nat) : Int)).1 < fr.length := by
                rw [isF_iff] at c10; omega
              have he : fndE fr.length pg pa w kind = 7 := by unfold fndE; rw [if_pos ha, if_pos (by omega), if_pos hz, if_neg hn]
              simp [pack, fndV, he]
            · intro c10
              refine x_skip (n_then (x_seq (x_region (s_val rfl (v_move rfl) ?_))))
              refine s_val rfl (v_fieldAddr rfl Tryz.underlying70 rfl Tryz.sizeOf3 rfl (by first | exact Nat.zero_add _ | rfl)) ?_
              refine s_val rfl (v_load Tryz.isAgg3 rfl (cell_own rfl)) ?_
              refine s_val rfl (v_move rfl) ?_
              refine s_val rfl (v_rem rfl rfl (by decide) (tmodN pa 64)) ?_
              refine s_val rfl (v_conv Tryz.underlying31 Tryz.underlying3 rfl (w64 (by omega))) ?_
              refine s_val rfl (v_build Tryz.underlying54 Tryz.zeroValue54 (sized_cons Tryz.sizeOf3 (sized_cons Tryz.sizeOf3 (sized_cons Tryz.sizeOf3 (sized_cons Tryz.sizeOf4 sized_nil)))) (fil_scal rfl Tryz.sizeOf3 rfl rfl (Nat.le_of_ble_eq_true rfl) SetL.eq (fil_scal rfl Tryz.sizeOf3 rfl rfl (Nat.le_of_ble_eq_true rfl) SetL.eq (fil_scal rfl Tryz.sizeOf3 rfl rfl (Nat.le_of_ble_eq_true rfl) SetL.eq fil_nil)))) ?_
              refine s_do0 (d_storeAll Tryz.sizeOf54 rfl rfl rfl rfl rfl) ?_
              rintro _ _ rfl
              refine s_val rfl (v_assign rfl) (x_nil (n_then (x_ret (x_done (.inl rfl) (.cons (r_all Tryz.isAgg54 Tryz.sizeOf54 rfl rfl) (.cons (r_tmp rfl) .nil)) ?_))))
              refine ⟨_, ⟨?_, rfl⟩, inferInstance⟩
              have hn : (gGot pg ((pa / 64 : Nat) : Int)).1 < fr.length := by
                rw [isF_iff] at c10; omega
              have he : fndE fr.length pg pa w kind = 0 := by unfold fndE; rw [if_pos ha, if_pos (by omega), if_pos hz, if_pos hn]
              simp [pack, fndV, he]
  · intro g1_3
    refine s_no rfl rfl rfl rfl (s_val rfl (v_pick_f rfl rfl) (s_val rfl (v_move rfl) (s_no rfl rfl rfl rfl (s_no rfl rfl rfl rfl (s_val rfl (v_pick_f rfl rfl) (s_val rfl (v_move rfl) (s_yes rfl rfl (s_val rfl (v_move rfl) (s_yes rfl rfl (s_val rfl (v_move rfl) (s_yes rfl rfl ?_)))))))))))
    refine s_val rfl (v_conv Tryz.underlying3 Tryz.underlying31 rfl (w32u (by omega))) ?_
    refine s_yes rfl rfl ?_
    refine s_val rfl (v_rem rfl rfl (by omega) (Int.tmod_eq_emod_of_nonneg (by omega))) ?_
    refine s_yes rfl rfl (s_val rfl (v_neq rfl rfl) (s_val rfl (v_pick_f rfl rfl) (x_nil (n_then ?_))))
    refine x_if rfl ?_ ?_
    · intro c1
      refine x_seq (x_region (s_val rfl (v_build Tryz.underlying54 Tryz.zeroValue54 (sized_cons Tryz.sizeOf3 (sized_cons Tryz.sizeOf3 (sized_cons Tryz.sizeOf3 (sized_cons Tryz.sizeOf4 sized_nil)))) fil_nil) ?_))
      refine s_do0 (d_storeAll Tryz.sizeOf54 rfl rfl rfl rfl rfl) ?_
      rintro _ _ rfl
      refine s_val rfl (v_assign rfl) (x_nil (n_then (x_ret (r_then (x_done (.inl rfl) (.cons (r_all Tryz.isAgg54 Tryz.sizeOf54 rfl rfl) (.cons (r_tmp rfl) .nil)) ?_)))))
      refine ⟨_, ⟨?_, rfl⟩, inferInstance⟩
      have ha : alB pa w = false := by
        rw [← Bool.not_eq_true]; simp only [alB, decide_eq_true_eq]
        rintro ⟨q1, q2⟩
        first
          | omega
          | (rcases q1 with rfl | rfl | rfl <;> omega)
      have he : fndE fr.length pg pa w kind = 1 := by simp [fndE, ha]
      simp [pack, fndV, he]
    · intro c1
      have ha : alB pa w = true := by
        simp only [alB, decide_eq_true_eq]
        refine ⟨by omega, ?_⟩
        have : w = 1 ∨ w = 2 ∨ w = 4 := by omega
        rcases this with rfl | rfl | rfl <;> omega
      refine x_skip (n_then (x_seq (x_seq (x_region (s_val rfl (v_move rfl) (s_val rfl (v_geq rfl rfl) (x_nil (n_then ?_))))))))
      refine x_if rfl ?_ ?_
      · intro c3
        refine x_seq (x_region (s_val rfl (v_build Tryz.underlying54 Tryz.zeroValue54 (sized_cons Tryz.sizeOf3 (sized_cons Tryz.sizeOf3 (sized_cons Tryz.sizeOf3 (sized_cons Tryz.sizeOf4 sized_nil)))) fil_nil) ?_))
        refine s_do0 (d_storeAll Tryz.sizeOf54 rfl rfl rfl rfl rfl) ?_
        rintro _ _ rfl
        refine s_val rfl (v_assign rfl) (x_nil (n_then (x_ret (r_then (x_done (.inl rfl) (.cons (r_all Tryz.isAgg54 Tryz.sizeOf54 rfl rfl) (.cons (r_tmp rfl) .nil)) ?_)))))
        refine ⟨_, ⟨?_, rfl⟩, inferInstance⟩
        have he : fndE fr.length pg pa w kind = 2 := by unfold fndE; rw [if_pos ha, if_neg (by omega)]
        simp [pack, fndV, he]
      · intro c3
        refine x_skip (n_then (x_seq (x_region (s_val rfl (v_move rfl) ?_))))
        refine s_val rfl (v_quo rfl rfl (by decide) ((congrArg (IntKind.wrap .u32) (tdivN pa 64)).trans (w32u (by omega)))) ?_
        refine s_val rfl (v_conv Tryz.underlying31 Tryz.underlying3 rfl (w64 (by omega))) ?_
        refine s_val rfl (v_assign rfl) (x_nil (n_then (x_seq (x_region (s_val rfl (v_move rfl) (s_val rfl (v_nilCheck rfl) ?_))))))
        refine s_val rfl (v_fieldAddr rfl Tryz.underlying43 rfl Tryz.sizeOf40 rfl (by first | exact Nat.zero_add _ | rfl)) ?_
        refine s_val rfl (v_load Tryz.isAgg40 rfl (cell_own rfl)) ?_
        refine s_val rfl (v_move rfl) (s_val rfl (v_move rfl) (s_do rfl (d_call1 Tryz.call82 rfl (rgAllows_spec W0 _ qm pg h ((pa / 64 : Nat) : Int) kind)) ?_))
        rintro _ B_ ⟨rfl, hB_⟩
        obtain rfl := hB_.symm
        refine s_val rfl (v_assign rfl) (x_nil (n_then (x_seq (x_seq (x_region (s_val rfl (v_move rfl) (s_val rfl (v_neq rfl rfl) (x_nil (n_then ?_)))))))))
        refine x_if rfl ?_ ?_
        · intro c7
          refine x_seq (x_region (s_val rfl (v_build Tryz.underlying54 Tryz.zeroValue54 (sized_cons Tryz.sizeOf3 (sized_cons Tryz.sizeOf3 (sized_cons Tryz.sizeOf3 (sized_cons Tryz.sizeOf4 sized_nil)))) fil_nil) ?_))
          refine s_val rfl (v_move rfl) (s_do0 (d_storeAll Tryz.sizeOf54 rfl rfl rfl rfl rfl) ?_)
          rintro _ _ rfl
          refine s_val rfl (v_assign rfl) (x_nil (n_then (x_ret (r_then (x_done (.inl rfl) (.cons (r_all Tryz.isAgg54 Tryz.sizeOf54 rfl rfl) (.cons (r_tmp rfl) .nil)) ?_)))))
          refine ⟨_, ⟨?_, rfl⟩, inferInstance⟩
          have he : fndE fr.length pg pa w kind = alwE pg ((pa / 64 : Nat) : Int) kind := by unfold fndE; rw [if_pos ha, if_pos (by omega), if_neg c7]
          rw [fndV, if_neg (by rw [he]; exact c7), he]; rfl
        · intro c7
          have hz : alwE pg ((pa / 64 : Nat) : Int) kind = 0 := by simpa using c7
          have hth : thereB pg ((pa / 64 : Nat) : Int) = true := by
            unfold alwE at hz; split at hz
            · assumption
            · omega
          have hk := okPl_iff.1 (gGot_ok h hth)
          refine x_skip (n_then (x_seq (x_region (s_val rfl (v_move rfl) (s_val rfl (v_nilCheck rfl) ?_)))))
          refine s_val rfl (v_fieldAddr rfl Tryz.underlying43 rfl Tryz.sizeOf40 rfl (by first | exact Nat.zero_add _ | rfl)) ?_
          refine s_val rfl (v_load Tryz.isAgg40 rfl (cell_own rfl)) ?_
          refine s_val rfl (v_move rfl) (s_do rfl (d_call1 Tryz.call83 rfl (rgGet_spec W0 _ qm pg h ((pa / 64 : Nat) : Int))) ?_)
          rintro _ B_ ⟨rfl, hB_⟩
          obtain rfl := hB_.symm
          refine s_val rfl (v_move rfl) (s_val rfl (v_extract rfl rfl) (s_val rfl (v_extract rfl rfl) (s_do rfl (d_allocA Tryz.zeroValue70) ?_)))
          rintro _ _ ⟨bp, rfl, rfl⟩
          refine s_do0 (d_storeAll Tryz.sizeOf70 rfl rfl rfl rfl rfl) ?_
          rintro _ _ rfl
          refine s_val rfl (v_assign rfl) (x_nil (n_then (x_seq (x_seq ?_))))
          refine x_draw [(bp, 0, _), (qv, 0, _)] 8 mixed rfl (sc_own (sc_own sc_end)) (fun hS => ?_)
          refine d_take 0 rfl rfl (by kernel_rfl) (by kernel_rfl) (by kernel_rfl) rfl hS (v_move rfl) ?_
          refine d_take 1 rfl rfl (by kernel_rfl) (by kernel_rfl) (by kernel_rfl) rfl hS (v_nilCheck rfl) ?_
          refine d_take 2 rfl rfl (by kernel_rfl) (by kernel_rfl) (by kernel_rfl) rfl hS (v_fieldAddr rfl Tryz.underlying43 rfl Tryz.sizeOf39 rfl (by first | exact Nat.zero_add _ | rfl)) ?_
          refine d_take 3 rfl rfl (by kernel_rfl) (by kernel_rfl) (by kernel_rfl) rfl hS (v_load Tryz.isAgg39 rfl (by first | exact cell_sc0 (k := 0) rfl rfl | exact cell_sc0 (k := 1) rfl rfl)) ?_
          refine d_take 4 rfl rfl (by kernel_rfl) (by kernel_rfl) (by kernel_rfl) rfl hS (v_fieldAddr rfl Tryz.underlying70 rfl Tryz.sizeOf3 rfl (by first | exact Nat.zero_add _ | rfl)) ?_
          refine d_take 5 rfl rfl (by kernel_rfl) (by kernel_rfl) (by kernel_rfl) rfl hS (v_load Tryz.isAgg3 rfl (by first | exact cell_sc0 (k := 0) rfl rfl | exact cell_sc0 (k := 1) rfl rfl)) ?_
          refine d_one 6 (by kernel_rfl) rfl rfl (d_call1 Tryz.call64 rfl (rfIs_spec W0 _ qs fr _)) rfl ?_; clear hS
          rintro _ B_ ⟨rfl, hB_⟩
          obtain rfl := hB_.symm
          refine ⟨(sc_own (sc_own sc_end)), fun hS => ?_⟩
          refine d_take 7 rfl rfl (by kernel_rfl) (by kernel_rfl) (by kernel_rfl) rfl hS (v_not rfl) ?_
          refine d_done (by kernel_rfl) ?_; clear hS
          refine n_then ?_
          refine x_if rfl ?_ ?_
          · intro c10
            refine x_seq (x_region (s_val rfl (v_build Tryz.underlying54 Tryz.zeroValue54 (sized_cons Tryz.sizeOf3 (sized_cons Tryz.sizeOf3 (sized_cons Tryz.sizeOf3 (sized_cons Tryz.sizeOf4 sized_nil)))) fil_nil) ?_))
            refine s_do0 (d_storeAll Tryz.sizeOf54 rfl rfl rfl rfl rfl) ?_
            rintro _ _ rfl
            refine s_val rfl (v_assign rfl) (x_nil (n_then (x_ret (r_then (x_done (.inl rfl) (.cons (r_all Tryz.isAgg54 Tryz.sizeOf54 rfl rfl) (.cons (r_tmp rfl) .nil)) ?_)))))
            refine ⟨_, ⟨?_, rfl⟩, inferInstance⟩
            have hn : ¬ (gGot pg ((pa / 64 : Nat) : Int)).1 < fr.length := by
              rw [isF_iff] at c10; omega
            have he : fndE fr.length pg pa w kind = 7 := by unfold fndE; rw [if_pos ha, if_pos (by omega), if_pos hz, if_neg hn]
            simp [pack, fndV, he]
          · intro c10
            refine x_skip (n_then (x_seq (x_region (s_val rfl (v_move rfl) ?_))))
            refine s_val rfl (v_fieldAddr rfl Tryz.underlying70 rfl Tryz.sizeOf3 rfl (by first | exact Nat.zero_add _ | rfl)) ?_
            refine s_val rfl (v_load Tryz.isAgg3 rfl (cell_own rfl)) ?_
            refine s_val rfl (v_move rfl) ?_
            refine s_val rfl (v_rem rfl rfl (by decide) (tmodN pa 64)) ?_
            refine s_val rfl (v_conv Tryz.underlying31 Tryz.underlying3 rfl (w64 (by omega))) ?_
            refine s_val rfl (v_build Tryz.underlying54 Tryz.zeroValue54 (sized_cons Tryz.sizeOf3 (sized_cons Tryz.sizeOf3 (sized_cons Tryz.sizeOf3 (sized_cons Tryz.sizeOf4 sized_nil)))) (fil_scal rfl Tryz.sizeOf3 rfl rfl (Nat.le_of_ble_eq_true rfl) SetL.eq (fil_scal rfl Tryz.sizeOf3 rfl rfl (Nat.le_of_ble_eq_true rfl) SetL.eq (fil_scal rfl Tryz.sizeOf3 rfl rfl (Nat.le_of_ble_eq_true rfl) SetL.eq fil_nil)))) ?_
            refine s_do0 (d_storeAll Tryz.sizeOf54 rfl rfl rfl rfl rfl) ?_
            rintro _ _ rfl
            refine s_val rfl (v_assign rfl) (x_nil (n_then (x_ret (x_done (.inl rfl) (.cons (r_all Tryz.isAgg54 Tryz.sizeOf54 rfl rfl) (.cons (r_tmp rfl) .nil)) ?_))))
            refine ⟨_, ⟨?_, rfl⟩, inferInstance⟩
            have hn : (gGot pg ((pa / 64 : Nat) : Int)).1 < fr.length := by
              rw [isF_iff] at c10; omega
            have he : fndE fr.length pg pa w kind = 0 := by unfold fndE; rw [if_pos ha, if_pos (by omega), if_pos hz, if_pos hn]
            simp [pack, fndV, he]
end Go.Proofs.YtllkdnadmmjehaaGreatDoor
namespace Go.Proofs.YtllkdnadmmjehaaGreatDoor
open Go.RowKit
set_option linter.unusedSimpArgs false
set_option linter.unusedVariables false
set_option maxRecDepth 20000
theorem wr_set {a b : Value} {d n : Nat} (h : n < 12) : (a :: b :: wrV d).set (2 + n * 1) (.bool true) = a :: b :: wrV (d ||| 2 ^ n) := by
  rw [show 2 + n * 1 = n + 1 + 1 by omega, List.set_cons_succ, List.set_cons_succ]
  congr 2
  apply List.ext_getElem
  · simp [wrV]
  · intro i h1 h2
    have hi : i < 12 := by simpa [wrV] using h2
    by_cases e : n = i
    · subst e; simp [wrV, Nat.testBit_or, Nat.testBit_two_pow_self]
    · simp [wrV, List.getElem_set, e, Nat.testBit_or, Nat.testBit_two_pow_of_ne e]
theorem rvSave_spec (W0 : World) (R : List HP) (qv qs qm d : Nat) (fr : List Frm) (pg : List Pl) (h : Pgs pg) (hF : Frs fr) (pa : Nat) (hpa : pa < 4294967296) (w : Int) (x : Nat) (hx : x < 4294967296) :
    Spec Tryz.prog W0 29 [.pointer (some ⟨qv, 0, none⟩), .int .u32 pa, .int .i64 w, .int .u32 x] (pt qv (rvO qs qm d) :: rstoH qs fr :: pt qm (rgO pg) :: R)
      (fun v B => v = .int .i64 (fndE fr.length pg pa w 2) ∧ B = pt qv (rvO qs qm (vsvD fr pg pa w d)) :: rstoH qs (vsvF fr pg pa w x) :: pt qm (rgO pg) :: R) := by
  by_cases hz : fndE fr.length pg pa w 2 = 0
  · obtain ⟨h1, h2, hv⟩ := fnd_ok hz
    rw [vsvD, if_pos hz, vsvF, if_pos hz]
    refine spec_body Tryz.func29 Tryz.ntmps29 rfl rfl ?_
    refine x_seq (x_region (s_val rfl (v_assign rfl) (x_nil (n_then (x_seq (x_region (s_val rfl (v_move rfl) (s_val rfl (v_move rfl) (s_val rfl (v_move rfl) (s_do rfl (d_call3 Tryz.call46 rfl (rvFind_spec W0 _ qv qs qm d fr pg h pa hpa w 2)) ?_))))))))))
    rintro _ B_ ⟨rfl, hB_⟩
    obtain rfl := hB_.symm
    rw [hv, hz]
    refine s_val rfl (v_move rfl) (s_val rfl (v_extract rfl rfl) (s_val rfl (v_extract rfl rfl) (s_do rfl (d_allocA Tryz.zeroValue54) ?_)))
    rintro _ _ ⟨b1, rfl, rfl⟩
    refine s_do0 (d_storeAll Tryz.sizeOf54 rfl rfl rfl rfl rfl) ?_
    rintro _ _ rfl
    refine s_val rfl (v_assign rfl) (x_nil (n_then (x_seq (x_seq (x_region (s_val rfl (v_move rfl) (s_val rfl (v_eql rfl rfl) (x_nil (n_then ?_)))))))))
    refine x_if rfl ?_ ?_
    · intro c2
      refine x_seq ?_
      refine x_draw [(qv, 0, _), (b1, 0, _)] 11 mixed rfl (sc_own (sc_own sc_end)) (fun hS => ?_)
      refine d_take 0 rfl rfl (by kernel_rfl) (by kernel_rfl) (by kernel_rfl) rfl hS (v_move rfl) ?_
      refine d_take 1 rfl rfl (by kernel_rfl) (by kernel_rfl) (by kernel_rfl) rfl hS (v_nilCheck rfl) ?_
      refine d_take 2 rfl rfl (by kernel_rfl) (by kernel_rfl) (by kernel_rfl) rfl hS (v_fieldAddr rfl Tryz.underlying43 rfl Tryz.sizeOf39 rfl (by first | exact Nat.zero_add _ | rfl)) ?_
      refine d_take 3 rfl rfl (by kernel_rfl) (by kernel_rfl) (by kernel_rfl) rfl hS (v_load Tryz.isAgg39 rfl (by first | exact cell_sc0 (k := 0) rfl rfl | exact cell_sc0 (k := 1) rfl rfl)) ?_
      refine d_take 4 rfl rfl (by kernel_rfl) (by kernel_rfl) (by kernel_rfl) rfl hS (v_fieldAddr rfl Tryz.underlying54 rfl Tryz.sizeOf3 rfl (by first | exact Nat.zero_add _ | rfl)) ?_
      refine d_take 5 rfl rfl (by kernel_rfl) (by kernel_rfl) (by kernel_rfl) rfl hS (v_load Tryz.isAgg3 rfl (by first | exact cell_sc0 (k := 0) rfl rfl | exact cell_sc0 (k := 1) rfl rfl)) ?_
      refine d_take 6 rfl rfl (by kernel_rfl) (by kernel_rfl) (by kernel_rfl) rfl hS (v_fieldAddr rfl Tryz.underlying54 rfl Tryz.sizeOf3 rfl (by first | exact Nat.zero_add _ | rfl)) ?_
      refine d_take 7 rfl rfl (by kernel_rfl) (by kernel_rfl) (by kernel_rfl) rfl hS (v_load Tryz.isAgg3 rfl (by first | exact cell_sc0 (k := 0) rfl rfl | exact cell_sc0 (k := 1) rfl rfl)) ?_
      refine d_take 8 rfl rfl (by kernel_rfl) (by kernel_rfl) (by kernel_rfl) rfl hS (v_move rfl) ?_
      refine d_take 9 rfl rfl (by kernel_rfl) (by kernel_rfl) (by kernel_rfl) rfl hS (v_move rfl) ?_
      refine d_one 10 (by kernel_rfl) rfl rfl (d_call1 Tryz.call34 rfl (rfSave_spec W0 _ qs fr _ _ w x hx hF)) rfl ?_; clear hS
      rintro _ B_ ⟨rfl, hB_⟩
      obtain rfl := hB_.symm
      refine ⟨(sc_own (sc_own sc_end)), fun hS => ?_⟩
      refine d_done (by kernel_rfl) ?_; clear hS
      refine n_then ?_
      refine x_draw [(b1, 0, _)] 7 mixed rfl (sc_own sc_end) (fun hS => ?_)
      refine d_take 0 rfl rfl (by kernel_rfl) (by kernel_rfl) (by kernel_rfl) rfl hS (v_move rfl) ?_
      refine d_take 1 rfl rfl (by kernel_rfl) (by kernel_rfl) (by kernel_rfl) rfl hS (v_fieldAddr rfl Tryz.underlying54 rfl Tryz.sizeOf3 rfl (by first | exact Nat.zero_add _ | rfl)) ?_
      refine d_take 2 rfl rfl (by kernel_rfl) (by kernel_rfl) (by kernel_rfl) rfl hS (v_load Tryz.isAgg3 rfl (cell_sc0 (k := 0) rfl rfl)) ?_
      refine d_take 3 rfl rfl (by kernel_rfl) (by kernel_rfl) (by kernel_rfl) rfl hS (v_nilCheck rfl) ?_
      refine d_take 4 rfl rfl (by kernel_rfl) (by kernel_rfl) (by kernel_rfl) rfl hS (v_fieldAddr rfl Tryz.underlying43 rfl Tryz.sizeOf41 rfl (by first | exact Nat.zero_add _ | rfl)) ?_
      refine d_take 5 rfl rfl (by kernel_rfl) (by kernel_rfl) (by kernel_rfl) rfl hS (v_idxArr Tryz.underlying41 Tryz.sizeOf4 rfl rfl rfl (by omega) (by first | exact Nat.zero_add _ | rfl)) ?_
      refine d_one 6 (by kernel_rfl) rfl rfl (d_store Tryz.sizeOf4 rfl rfl rfl (by simp [wrV]; omega) (wr_set (by omega))) rfl ?_; clear hS
      rintro _ _ rfl
      refine ⟨(sc_own sc_end), fun hS => ?_⟩
      refine d_done (by kernel_rfl) ?_; clear hS
      refine n_then (x_seq (x_region (s_val rfl (v_move rfl) (s_val rfl (v_assign rfl) (x_nil (n_then (x_ret (x_done (.inl rfl) (.cons (r_tmp rfl) .nil) ?_))))))))
      exact ⟨_, ⟨rfl, rfl⟩, inferInstance⟩
    · intro c2
      exact absurd rfl c2
  · rw [vsvD, if_neg hz, vsvF, if_neg hz]
    refine spec_body Tryz.func29 Tryz.ntmps29 rfl rfl ?_
    refine x_seq (x_region (s_val rfl (v_assign rfl) (x_nil (n_then (x_seq (x_region (s_val rfl (v_move rfl) (s_val rfl (v_move rfl) (s_val rfl (v_move rfl) (s_do rfl (d_call3 Tryz.call46 rfl (rvFind_spec W0 _ qv qs qm d fr pg h pa hpa w 2)) ?_))))))))))
    rintro _ B_ ⟨rfl, hB_⟩
    obtain rfl := hB_.symm
    rw [fndV, if_neg hz]
    refine s_val rfl (v_move rfl) (s_val rfl (v_extract rfl rfl) (s_val rfl (v_extract rfl rfl) (s_do rfl (d_allocA Tryz.zeroValue54) ?_)))
    rintro _ _ ⟨b1, rfl, rfl⟩
    refine s_do0 (d_storeAll Tryz.sizeOf54 rfl rfl rfl rfl rfl) ?_
    rintro _ _ rfl
    refine s_val rfl (v_assign rfl) (x_nil (n_then (x_seq (x_seq (x_region (s_val rfl (v_move rfl) (s_val rfl (v_eql rfl rfl) (x_nil (n_then ?_)))))))))
    refine x_if rfl ?_ ?_
    · intro c2
      exact absurd c2 hz
    · intro c2
      refine x_skip (n_then (x_seq (x_region (s_val rfl (v_move rfl) (s_val rfl (v_assign rfl) (x_nil (n_then (x_ret (x_done (.inl rfl) (.cons (r_tmp rfl) .nil) ?_)))))))))
      exact ⟨_, ⟨rfl, rfl⟩, inferInstance⟩
end Go.Proofs.YtllkdnadmmjehaaGreatDoor
namespace Go.Proofs.YtllkdnadmmjehaaGreatDoor
open Go.RowKit
set_option linter.unusedSimpArgs false
set_option linter.unusedVariables false
set_option maxRecDepth 20000
def pcN (pa n at_ : Nat) : Nat := min (n - at_) (64 - (pa + at_) % 64)
theorem pcN_pos {pa n at_ : Nat} (h : at_ < n) : 0 < pcN pa n at_ ∧ at_ + pcN pa n at_ ≤ n := by unfold pcN; omega
def pcV (pa n at_ : Nat) : List Value := [.int .i64 ((pa + at_) / 64 : Nat), .int .i64 ((pa + at_) % 64 : Nat), .int .i64 (at_ : Nat), .int .i64 (pcN pa n at_ : Nat)]
theorem pieces1_spec (W0 : World) (bn bp pa n L : Nat) (hpa : pa ≤ 100000) (hn : n ≤ 100000) (C : Nat → List HP) (I : Nat → Prop) (h0 : I 0) (Stop : List HP → Prop)
    (hr : ∀ at_ R, at_ < n → I at_ → Rounds Tryz.prog W0 L [.agg (pcV pa n at_).toArray] (C at_ ++ R) (fun v B => ∃ b B', v = .bool b ∧ B = B' ++ R ∧ ((b = true ∧ I (at_ + pcN pa n at_) ∧ B' = C (at_ + pcN pa n at_)) ∨ (b = false ∧ Stop B')))) :
    Spec Tryz.prog W0 185 [.func (.yield L) #[] #[], .pointer (some ⟨bn, 0, none⟩), .pointer (some ⟨bp, 0, none⟩)] (pt bn (cob [.int .i64 n] 3) :: pt bp (cob [.int .i64 pa] 3) :: C 0)
      (fun v B => v = .tuple #[] ∧ ((I n ∧ B = C n) ∨ Stop B)) := by
  refine spec_body Tryz.func185 Tryz.ntmps185 rfl rfl ?_
  refine x_seq (x_region (s_val rfl (v_assign rfl) (x_nil (n_then (x_block ?_)))))
  refine x_loop (fun i : Nat => i ≤ n ∧ I i) (fun i => [(0, .func (.yield L) #[] #[]), (1, .pointer (some ⟨bn, 0, none⟩)), (2, .pointer (some ⟨bp, 0, none⟩)), (4, .int .i64 i)]) (fun i => pt bn (cob [.int .i64 n] 3) :: pt bp (cob [.int .i64 pa] 3) :: C i) (fun i => n - i) 0 ?_ ?_ ?_ ?_
  · exact ⟨Nat.zero_le _, h0⟩
  · repeat (first | exact sub_nil | refine sub_cons rfl ?_)
  · exact inferInstance
  · intro i ⟨hi, hI⟩
    refine x_seq (x_seq (x_region (s_val rfl (v_move rfl) (s_val rfl (v_load Tryz.isAgg3 rfl (cell_own rfl)) ?_))))
    refine s_val rfl (v_lss rfl rfl) (x_nil (n_then ?_))
    refine x_if rfl ?_ ?_
    · intro c1
      refine x_skip (n_then (x_block (x_seq ?_)))
      have hpos := pcN_pos (pa := pa) (n := n) (at_ := i) (by omega)
      refine x_region (s_val rfl (v_load Tryz.isAgg3 rfl (cell_own rfl)) ?_)
      refine s_val rfl (v_move rfl) ?_
      refine s_val rfl (v_add rfl rfl (by rw [w64 (by omega)]; omega : IntKind.wrap .i64 ((pa : Int) + (i : Int)) = ((pa + i : Nat) : Int))) ?_
      refine s_val rfl (v_quo rfl rfl (by decide) ((congrArg (IntKind.wrap .i64) (tdivN (pa + i) 64)).trans (w64 (by omega)))) ?_
      refine s_val rfl (v_load Tryz.isAgg3 rfl (cell_own rfl)) ?_
      refine s_val rfl (v_move rfl) ?_
      refine s_val rfl (v_add rfl rfl (by rw [w64 (by omega)]; omega : IntKind.wrap .i64 ((pa : Int) + (i : Int)) = ((pa + i : Nat) : Int))) ?_
      refine s_val rfl (v_rem rfl rfl (by decide) (tmodN (pa + i) 64)) ?_
      refine s_val rfl (v_move rfl) (s_val rfl (v_build Tryz.underlying258 Tryz.zeroValue258 (sized_cons Tryz.sizeOf3 (sized_cons Tryz.sizeOf3 (sized_cons Tryz.sizeOf3 (sized_cons Tryz.sizeOf3 sized_nil)))) (fil_scal rfl Tryz.sizeOf3 rfl rfl (Nat.le_of_ble_eq_true rfl) SetL.eq (fil_scal rfl Tryz.sizeOf3 rfl rfl (Nat.le_of_ble_eq_true rfl) SetL.eq (fil_scal rfl Tryz.sizeOf3 rfl rfl (Nat.le_of_ble_eq_true rfl) SetL.eq fil_nil)))) ?_)
      refine s_do rfl (d_allocA Tryz.zeroValue258) ?_
      rintro _ _ ⟨b1, rfl, rfl⟩
      refine s_do0 (d_storeAll Tryz.sizeOf258 rfl rfl rfl rfl rfl) ?_
      rintro _ _ rfl
      refine x_nil (n_then (x_seq (x_region (s_val rfl (v_load Tryz.isAgg3 rfl (cell_own rfl)) ?_))))
      refine s_val rfl (v_move rfl) ?_
      refine s_val rfl (v_sub rfl rfl (by rw [w64 (by omega)]; omega : IntKind.wrap .i64 ((n : Int) - (i : Int)) = ((n - i : Nat) : Int))) ?_
      refine s_val rfl (v_fieldAddr rfl Tryz.underlying258 rfl Tryz.sizeOf3 rfl (by first | exact Nat.zero_add _ | rfl)) ?_
      refine s_val rfl (v_load Tryz.isAgg3 rfl (cell_own rfl)) ?_
      refine s_val rfl (v_sub rfl rfl (by rw [w64 (by omega)]; omega : IntKind.wrap .i64 (64 - (((pa + i) % 64 : Nat) : Int)) = ((64 - (pa + i) % 64 : Nat) : Int))) ?_
      refine s_val rfl (v_min rfl rfl (by unfold pcN; split <;> omega : (if ((64 - (pa + i) % 64 : Nat) : Int) < ((n - i : Nat) : Int) then ((64 - (pa + i) % 64 : Nat) : Int) else ((n - i : Nat) : Int)) = ((pcN pa n i : Nat) : Int))) ?_
      refine s_val rfl (v_fieldAddr rfl Tryz.underlying258 rfl Tryz.sizeOf3 rfl (by first | exact Nat.zero_add _ | rfl)) ?_
      refine s_do0 (d_store Tryz.sizeOf3 rfl rfl rfl (Nat.le_of_ble_eq_true rfl) SetL.eq) ?_
      rintro _ _ rfl
      refine x_nil (n_then (x_seq (x_seq (x_region (s_val rfl (v_move rfl) (s_val rfl (v_loadAll Tryz.isAgg258 Tryz.sizeOf258 rfl rfl) ?_))))))
      refine s_yield rfl rfl rfl (rounds_perm (List.perm_append_comm (l₁ := [_, _, _])) (hr i [_, _, _] (by omega) hI)) ?_
      rintro _ B_ ⟨b, B', rfl, hB_, hb⟩
      obtain rfl := hB_.symm
      refine run_perm List.perm_append_comm ?_
      simp only [List.cons_append, List.nil_append]
      refine s_val rfl (v_not rfl) (x_nil (n_then ?_))
      refine x_if rfl ?_ ?_
      · intro c4
        have hs : Stop B' := by
          rcases hb with h | h
          · exact absurd c4 (by rw [h.1]; decide)
          · exact h.2
        refine x_ret (r_then (r_block (r_then (r_block (x_done (.inl rfl) .nil ?_)))))
        exact ⟨_, ⟨rfl, .inr hs⟩, inferInstance⟩
      · intro c4
        have hs : I (i + pcN pa n i) ∧ B' = C (i + pcN pa n i) := by
          rcases hb with h | h
          · exact h.2
          · exact absurd (by rw [h.1]; decide) c4
        obtain ⟨hI', rfl⟩ := hs
        refine x_skip (n_then (x_region (s_val rfl (v_move rfl) ?_)))
        refine s_val rfl (v_fieldAddr rfl Tryz.underlying258 rfl Tryz.sizeOf3 rfl (by first | exact Nat.zero_add _ | rfl)) ?_
        refine s_val rfl (v_load Tryz.isAgg3 rfl (cell_own rfl)) ?_
        refine s_val rfl (v_add rfl rfl (by rw [w64 (by omega)]; omega : IntKind.wrap .i64 ((i : Int) + ((pcN pa n i : Nat) : Int)) = ((i + pcN pa n i : Nat) : Int))) ?_
        refine s_val rfl (v_assign rfl) (x_nil (n_block (n_then ?_)))
        refine inv_intro (i + pcN pa n i) ?_ ?_ ?_ ?_
        · exact ⟨by omega, hI'⟩
        · omega
        · repeat (first | exact sub_nil | refine sub_cons rfl ?_)
        · exact inferInstance
    · intro c1
      refine x_exit (e_then (e_then (e_block (x_done (.inr rfl) .nil ?_))))
      have : i = n := by omega
      subst this
      exact ⟨_, ⟨rfl, .inl ⟨hI, rfl⟩⟩, inferInstance⟩
theorem pieces_spec (W0 : World) (R : List HP) (pa n : Nat) :
    Spec Tryz.prog W0 182 [.int .i64 pa, .int .i64 n] R (fun v B => ∃ bn bp, v = .func (.func 185) #[] #[.pointer (some ⟨bn, 0, none⟩), .pointer (some ⟨bp, 0, none⟩)] ∧ B = pt bn (cob [.int .i64 n] 3) :: pt bp (cob [.int .i64 pa] 3) :: R) := by
  refine spec_body Tryz.func182 Tryz.ntmps182 rfl rfl ?_
  refine x_seq (x_region (s_do rfl (d_box rfl rfl) ?_))
  rintro _ _ ⟨b1, rfl, rfl⟩
  refine s_do rfl (d_box rfl rfl) ?_
  rintro _ _ ⟨b2, rfl, rfl⟩
  refine s_val rfl (v_assign rfl) (x_nil (n_then (x_seq (x_region (s_val rfl (v_mkFunc rfl rfl) ?_)))))
  refine s_val rfl (v_assign rfl) (x_nil (n_then (x_ret (x_done (.inl rfl) (.cons (r_tmp rfl) .nil) ?_))))
  exact ⟨_, ⟨b2, b1, rfl, rfl⟩, inferInstance⟩
theorem pieces_range {W0 : World} {A : List HP} {e : Env} {n' L D bn bp : Nat} {ps : Array Tmp} {asg body : Code} {Go Stop : List HP → Prop} (pa n : Nat) (C : Nat → List HP) (I : Nat → Prop) (hpa : pa ≤ 100000) (hn : n ≤ 100000)
    (hp : A.Perm (pt bn (cob [.int .i64 n] 3) :: pt bp (cob [.int .i64 pa] 3) :: C 0)) (h0 : I 0) (hgo : I n → Go (C n))
    (hr : ∀ at_ R, at_ < n → I at_ → Rounds Tryz.prog W0 L [.agg (pcV pa n at_).toArray] (recH L ⟨e, n', ps, asg, body, .ready, none, D⟩ :: pt D (.deferred (some [])) :: (C at_ ++ R))
      (fun v B => (v = .bool true ∧ I (at_ + pcN pa n at_) ∧ B = recH L ⟨e, n', ps, asg, body, .ready, none, D⟩ :: pt D (.deferred (some [])) :: (C (at_ + pcN pa n at_) ++ R)) ∨
        (v = .bool false ∧ ∃ B', Stop B' ∧ B = recH L ⟨e, n', ps, asg, body, .done, some .ret, D⟩ :: pt D (.deferred (some [])) :: (B' ++ R)))) :
    Spec Tryz.prog W0 185 (.func (.yield L) #[] #[] :: [.pointer (some ⟨bn, 0, none⟩), .pointer (some ⟨bp, 0, none⟩)]) (recH L ⟨e, n', ps, asg, body, .ready, none, D⟩ :: pt D (.deferred (some [])) :: A)
      (fun _ B => (∃ C, B = recH L ⟨e, n', ps, asg, body, .ready, none, D⟩ :: pt D (.deferred (some [])) :: C ∧ Go C) ∨ (∃ C, B = recH L ⟨e, n', ps, asg, body, .done, some .ret, D⟩ :: pt D (.deferred (some [])) :: C ∧ Stop C)) := by
  have hperm : (recH L ⟨e, n', ps, asg, body, .ready, none, D⟩ :: pt D (.deferred (some [])) :: A).Perm (pt bn (cob [.int .i64 n] 3) :: pt bp (cob [.int .i64 pa] 3) :: (recH L ⟨e, n', ps, asg, body, .ready, none, D⟩ :: pt D (.deferred (some [])) :: C 0)) := by
    refine ((hp.cons _).cons _).trans ?_
    exact (((List.Perm.swap _ _ _).trans ((List.Perm.swap _ _ _).cons _)).cons _).trans ((List.Perm.swap _ _ _).trans ((List.Perm.swap _ _ _).cons _)) |>.trans (List.Perm.refl _)
  refine spec_perm hperm (spec_post (pieces1_spec W0 bn bp pa n L hpa hn (fun i => recH L ⟨e, n', ps, asg, body, .ready, none, D⟩ :: pt D (.deferred (some [])) :: C i) I h0
    (fun B => ∃ B', Stop B' ∧ B = recH L ⟨e, n', ps, asg, body, .done, some .ret, D⟩ :: pt D (.deferred (some [])) :: B') fun at_ R hat hI w hO => ?_) ?_)
  · obtain ⟨f, tmps, as_, bd, hy, hR⟩ := hr at_ R hat hI w hO
    refine ⟨f, tmps, as_, bd, hy, RoundIn.mono hR ?_⟩
    rintro _ w' ⟨v, B, rfl, hB, hO'⟩
    rcases hB with ⟨rfl, hI', rfl⟩ | ⟨rfl, B', hS, rfl⟩
    · exact ⟨_, _, rfl, ⟨true, _, rfl, rfl, .inl ⟨rfl, hI', rfl⟩⟩, hO'⟩
    · exact ⟨_, _, rfl, ⟨false, recH L ⟨e, n', ps, asg, body, .done, some .ret, D⟩ :: pt D (.deferred (some [])) :: B', rfl, rfl, .inr ⟨rfl, B', hS, rfl⟩⟩, hO'⟩
  · rintro v B ⟨_, ⟨hI, rfl⟩ | ⟨B', hS, rfl⟩⟩
    · exact ⟨_, .inl ⟨_, rfl, hgo hI⟩, ent_refl⟩
    · exact ⟨_, .inr ⟨_, rfl, hS⟩, ent_refl⟩
end Go.Proofs.YtllkdnadmmjehaaGreatDoor
namespace Go.Proofs.YtllkdnadmmjehaaGreatDoor
open Go.RowKit
set_option linter.unusedSimpArgs false
set_option linter.unusedVariables false
set_option maxRecDepth 20000
def pgI (a : Nat) : Int := ((a / 64 : Nat) : Int)
def ownA (len : Nat) (pg : List Pl) (pa n : Nat) : Prop := ∀ i, i < n → frmB len pg (pgI (pa + i)) = true
instance {len : Nat} {pg : List Pl} {pa n : Nat} : Decidable (ownA len pg pa n) := by unfold ownA; exact Nat.decidableBallLT n _
def ownB (len : Nat) (pg : List Pl) (pa : Nat) (n : Int) : Bool := decide (0 ≤ n ∧ pa ≤ 512 ∧ n ≤ 512 - (pa : Int)) && decide (ownA len pg pa n.toNat)
theorem ownB_iff {len : Nat} {pg : List Pl} {pa : Nat} {n : Int} : ownB len pg pa n = true ↔ (0 ≤ n ∧ pa ≤ 512 ∧ n ≤ 512 - (pa : Int)) ∧ ownA len pg pa n.toNat := by simp [ownB]
theorem ownB_nat {len : Nat} {pg : List Pl} {pa n : Nat} : ownB len pg pa n = true ↔ pa + n ≤ 512 ∧ ownA len pg pa n := by
  rw [ownB_iff]; simp only [Int.toNat_natCast]
  constructor
  · rintro ⟨h1, h2⟩; exact ⟨by omega, h2⟩
  · rintro ⟨h1, h2⟩; exact ⟨by omega, h2⟩
theorem pc_page {pa n at_ i : Nat} (h1 : at_ ≤ i) (h2 : i < at_ + pcN pa n at_) : (pa + i) / 64 = (pa + at_) / 64 := by unfold pcN at h2; omega
theorem pc_off {pa n at_ k : Nat} (h2 : k < pcN pa n at_) : (pa + (at_ + k)) / 64 = (pa + at_) / 64 ∧ (pa + (at_ + k)) % 64 = (pa + at_) % 64 + k := by unfold pcN at h2; omega
theorem viOwn_spec (W0 : World) (R : List HP) (pv ps pm d : Nat) (fr : List Frm) (pg : List Pl) (h : Pgs pg) (pa : Nat) (hpa : pa < 4294967296) (n : Int) :
    Spec Tryz.prog W0 173 [.pointer (some ⟨pv, 0, none⟩), .int .u32 pa, .int .i64 n] (pt pv (viO ps pm d) :: stoH ps fr :: pt pm (gmO pg) :: R)
      (fun v B => v = .bool (ownB fr.length pg pa n) ∧ B = pt pv (viO ps pm d) :: stoH ps fr :: pt pm (gmO pg) :: R) := by
  refine spec_body Tryz.func173 Tryz.ntmps173 rfl rfl ?_
  refine x_seq (x_region (s_do rfl (d_box rfl rfl) ?_))
  rintro _ _ ⟨b1, rfl, rfl⟩
  refine s_do rfl (d_alloc Tryz.zeroValue4 rfl) ?_
  rintro _ _ ⟨b2, rfl, rfl⟩
  refine x_nil (n_then (x_seq (x_seq (x_region (s_val rfl (v_load Tryz.isAgg25 rfl (cell_own rfl)) ?_)))))
  refine s_do rfl (d_call1 Tryz.call35 rfl (viNone_spec W0 _ pv ps pm d)) ?_
  rintro _ B_ ⟨rfl, hB_⟩
  obtain rfl := hB_.symm
  refine s_val rfl (v_move rfl) ?_
  refine s_or rfl rfl rfl ?_ ?_
  · intro g1_3
    exact absurd g1_3 (by decide)
  · intro g1_3
    refine s_val rfl (v_move rfl) (s_yes rfl rfl (s_val rfl (v_lss rfl rfl) (s_val rfl (v_pick_f rfl rfl) (s_val rfl (v_move rfl) ?_))))
    refine s_or rfl rfl rfl ?_ ?_
    · intro g1_7
      refine s_no rfl rfl rfl rfl (s_val rfl (v_pick_t rfl rfl) (s_val rfl (v_move rfl) (s_no rfl rfl rfl rfl (s_no rfl rfl rfl rfl (s_no rfl rfl rfl rfl (s_no rfl rfl rfl rfl (s_no rfl rfl rfl rfl (s_val rfl (v_pick_t rfl rfl) (x_nil (n_then (x_ift rfl (x_seq (x_region (s_do0 (d_store Tryz.sizeOf4 rfl rfl rfl (Nat.le_of_ble_eq_true rfl) SetL.eq) ?_))))))))))))))
      rintro _ _ rfl
      refine x_nil (n_then (x_ret (r_then (x_done (.inl rfl) (.cons (r_cell Tryz.isAgg4 rfl (cell_own rfl)) .nil) ?_))))
      refine ⟨_, ⟨?_, rfl⟩, inferInstance⟩
      refine congrArg Value.bool (Eq.symm ?_)
      rw [← Bool.not_eq_true, ownB_iff]; omega
    · intro g1_7
      refine s_val rfl (v_move rfl) (s_yes rfl rfl (s_val rfl (v_gtr rfl rfl) (s_val rfl (v_pick_f rfl rfl) (s_val rfl (v_move rfl) ?_))))
      refine s_or rfl rfl rfl ?_ ?_
      · intro g1_11
        refine s_no rfl rfl rfl rfl (s_no rfl rfl rfl rfl (s_no rfl rfl rfl rfl (s_no rfl rfl rfl rfl (s_val rfl (v_pick_t rfl rfl) (x_nil (n_then (x_ift rfl (x_seq (x_region (s_do0 (d_store Tryz.sizeOf4 rfl rfl rfl (Nat.le_of_ble_eq_true rfl) SetL.eq) ?_))))))))))
        rintro _ _ rfl
        refine x_nil (n_then (x_ret (r_then (x_done (.inl rfl) (.cons (r_cell Tryz.isAgg4 rfl (cell_own rfl)) .nil) ?_))))
        refine ⟨_, ⟨?_, rfl⟩, inferInstance⟩
        refine congrArg Value.bool (Eq.symm ?_)
        rw [← Bool.not_eq_true, ownB_iff]; omega
      · intro g1_11
        refine s_val rfl (v_move rfl) (s_yes rfl rfl (s_val rfl (v_move rfl) (s_yes rfl rfl ?_)))
        refine s_val rfl (v_conv Tryz.underlying31 Tryz.underlying3 rfl (by first | exact w64 (by omega) | rfl)) ?_
        refine s_yes rfl rfl ?_
        refine s_val rfl (v_sub rfl rfl (by first | exact w64 (by omega) | rfl)) ?_
        refine s_yes rfl rfl (s_val rfl (v_gtr rfl rfl) (s_val rfl (v_pick_f rfl rfl) (x_nil (n_then ?_))))
        refine x_if rfl ?_ ?_
        · intro c1
          refine x_seq (x_region (s_do0 (d_store Tryz.sizeOf4 rfl rfl rfl (Nat.le_of_ble_eq_true rfl) SetL.eq) ?_))
          rintro _ _ rfl
          refine x_nil (n_then (x_ret (r_then (x_done (.inl rfl) (.cons (r_cell Tryz.isAgg4 rfl (cell_own rfl)) .nil) ?_))))
          refine ⟨_, ⟨?_, rfl⟩, inferInstance⟩
          refine congrArg Value.bool (Eq.symm ?_)
          rw [← Bool.not_eq_true, ownB_iff]; omega
        · intro c1
          refine x_skip (n_then (x_seq (x_seq ?_)))
          obtain ⟨k, rfl⟩ : ∃ k : Nat, n = (k : Int) := ⟨n.toNat, by omega⟩
          have hk : pa + k ≤ 512 := by omega
          refine x_region (s_val rfl (v_move rfl) ?_)
          refine s_val rfl (v_conv Tryz.underlying31 Tryz.underlying3 rfl (by first | exact w64 (by omega) | rfl)) ?_
          refine s_val rfl (v_move rfl) (s_do rfl (d_call Tryz.call182 rfl (pieces_spec W0 _ pa k)) ?_)
          rintro _ B_ ⟨bn, bp, rfl, hB_⟩
          obtain rfl := hB_.symm
          refine x_nil (n_then (x_block ?_))
          refine x_rangeFunc (fun C => ownA fr.length pg pa k ∧ C = pt pv (viO ps pm d) :: pt b2 (cob [.bool false] 4) :: pt b1 (cob [.pointer (some ⟨pv, 0, none⟩)] 25) :: stoH ps fr :: pt pm (gmO pg) :: R) (fun C => ¬ ownA fr.length pg pa k ∧ C = pt pv (viO ps pm d) :: pt b2 (cob [.bool false] 4) :: pt b1 (cob [.pointer (some ⟨pv, 0, none⟩)] 25) :: stoH ps fr :: pt pm (gmO pg) :: R) rfl Tryz.call185 ?_ ?_ ?_
          · intro L D
            refine pieces_range pa k (fun _ => pt pv (viO ps pm d) :: pt b2 (cob [.bool false] 4) :: pt b1 (cob [.pointer (some ⟨pv, 0, none⟩)] 25) :: stoH ps fr :: pt pm (gmO pg) :: R) (fun i => ownA fr.length pg pa i) (by omega) (by omega) perm2 (fun i hi => by omega) (fun hI => ⟨hI, rfl⟩) ?_
            intro at_ R' h1 h2
            simp only [List.cons_append, List.nil_append]
            refine rounds_intro rfl rfl ?_
            refine x_region (s_do rfl (d_allocA Tryz.zeroValue258) ?_)
            rintro _ _ ⟨b3, rfl, rfl⟩
            refine s_do0 (d_storeAll Tryz.sizeOf258 rfl rfl rfl rfl rfl) ?_
            rintro _ _ rfl
            refine x_nil (n_begin rfl ?_)
            refine x_block (x_seq (x_region (s_val rfl (v_load Tryz.isAgg25 rfl (cell_own rfl)) ?_)))
            refine s_val rfl (v_fieldAddr rfl Tryz.underlying258 rfl Tryz.sizeOf3 rfl (by first | exact Nat.zero_add _ | rfl)) ?_
            refine s_val rfl (v_load Tryz.isAgg3 rfl (cell_own rfl)) ?_
            refine s_do rfl (d_call3 Tryz.call183 rfl (viFrame_spec W0 _ pv ps pm d fr pg h (((pa + at_) / 64 : Nat) : Int))) ?_
            rintro _ B_ ⟨rfl, hB_⟩
            obtain rfl := hB_.symm
            refine s_val rfl (v_move rfl) (s_val rfl (v_extract rfl rfl) (s_val rfl (v_extract rfl rfl) (s_val rfl (v_assign rfl) (s_val rfl (v_assign rfl) (x_nil (n_then (x_seq (x_region (s_val rfl (v_move rfl) (s_val rfl (v_not rfl) (x_nil (n_then ?_))))))))))))
            refine x_if rfl ?_ ?_
            · intro c6
              refine x_seq (x_region (s_do0 (d_store Tryz.sizeOf4 rfl rfl rfl (Nat.le_of_ble_eq_true rfl) SetL.eq) ?_))
              rintro _ _ rfl
              refine x_nil (n_then (x_ret (r_block (r_stop ?_))))
              have hn : ¬ ownA fr.length pg pa k := fun q => c6 (q at_ h1)
              refine ⟨_, .inr ⟨rfl, _, ⟨hn, rfl⟩, rfl⟩, ?_⟩
              simp only [List.cons_append]
              exact inferInstance
            · intro c6
              refine x_skip (n_block (r_go ?_))
              have hb : frmB fr.length pg (pgI (pa + at_)) = true := Decidable.not_not.1 c6
              have hI' : ownA fr.length pg pa (at_ + pcN pa k at_) := fun i hi => by
                rcases Nat.lt_or_ge i at_ with q | q
                · exact h2 i q
                · rw [pgI, pc_page q hi]; exact hb
              exact ⟨_, .inl ⟨rfl, hI', rfl⟩, inferInstance⟩
          · intro D C hC
            obtain ⟨hown, rfl⟩ := hC
            refine n_block (n_then (x_seq (x_region (s_do0 (d_store Tryz.sizeOf4 rfl rfl rfl (Nat.le_of_ble_eq_true rfl) SetL.eq) ?_))))
            rintro _ _ rfl
            refine x_nil (n_then (x_ret (x_doneM (.inl rfl) (.cons (r_cell Tryz.isAgg4 rfl (cell_own rfl)) .nil) ?_)))
            refine ⟨_, ⟨?_, rfl⟩, inferInstance⟩
            refine congrArg Value.bool (Eq.symm ?_)
            rw [ownB_nat]; exact ⟨hk, hown⟩
          · intro D C hC
            obtain ⟨hown, rfl⟩ := hC
            refine r_block (r_then (x_doneM (.inl rfl) (.cons (r_cell Tryz.isAgg4 rfl (cell_own rfl)) .nil) ?_))
            refine ⟨_, ⟨?_, rfl⟩, inferInstance⟩
            refine congrArg Value.bool (Eq.symm ?_)
            rw [← Bool.not_eq_true, ownB_nat]; exact fun q => hown q.2
end Go.Proofs.YtllkdnadmmjehaaGreatDoor
