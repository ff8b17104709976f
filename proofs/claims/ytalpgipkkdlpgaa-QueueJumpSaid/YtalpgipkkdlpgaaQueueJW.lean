/-
  Layer 23 (queue): the walk of QueueJump.
-/
import Derived.Test.YtalpgipkkdlpgaaQueueJ
namespace Go.Proofs.Ytalpgipkkdlpgaa
open Go.RowKit
set_option linter.unusedSimpArgs false
set_option linter.unusedVariables false
set_option maxRecDepth 20000

theorem QueueJump_walk (W0 : World) (taken : Nat) (ht : taken < 256) (put : Nat) (hp : put < 4294967296) : Spec Try.prog W0 4 [.int .u8 taken, .int .u32 put] [] (fun v B => v = .bool true ∧ B = []) := by
  have hP := pg23_ok 8
  have hfit : fitB (fq 0).length (pg23 8) ⟨0, 128, 192, 4⟩ = true := by decide +kernel
  by_cases k : 4 < wtN (taken % 30) put
  · skip
    refine spec_body Try.func4 Try.ntmps4 rfl rfl ?_
    refine x_seq ?_
    refine x_region ?_
    refine s_val rfl (v_assign rfl) ?_
    refine x_nil ?_
    refine n_then ?_
    refine x_seq ?_
    refine x_region ?_
    refine s_do rfl (d_call Try.call13 rfl (made23_spec W0 _ none 0 [] sla_nil (fun t ht => by simp at ht) (by decide))) ?_
    rintro _ B_ ⟨pv, ps, pm, qv, qs, qm, rfl, hB_⟩
    obtain rfl := hB_.symm
    rw [show (mk23 []).1 = fq 0 from rfl, show (mk23 []).2 = 0 from rfl]
    refine s_val rfl (v_move rfl) ?_
    refine s_val rfl (v_extract rfl rfl) ?_
    refine s_val rfl (v_extract rfl rfl) ?_
    refine s_val rfl (v_assign rfl) ?_
    refine s_val rfl (v_assign rfl) ?_
    refine x_nil ?_
    refine n_then ?_
    refine x_seq ?_
    refine x_region ?_
    refine s_do rfl (d_call Try.call14 rfl (qNew_spec W0 _)) ?_
    rintro _ B_ ⟨bq, rfl, hB_⟩
    obtain rfl := hB_.symm
    refine s_val rfl (v_assign rfl) ?_
    refine x_nil ?_
    refine n_then ?_
    refine x_seq ?_
    refine x_seq ?_
    refine x_region ?_
    refine s_val rfl (v_move rfl) ?_
    refine s_val rfl (v_eql_ptr_nil Try.underlying25 rfl rfl) ?_
    refine s_val rfl (v_move rfl) ?_
    refine s_or rfl rfl rfl ?_ ?_
    · intro g3_3
      cases g3_3
    · intro g3_3
      refine s_val rfl (v_move rfl) ?_
      refine s_yes rfl rfl ?_
      refine s_val rfl (v_move rfl) ?_
      refine s_yes rfl rfl ?_
      refine s_do rfl (d_call Try.call16 rfl (lies_spec W0 _)) ?_
      rintro _ B_ ⟨rfl, hB_⟩
      obtain rfl := hB_.symm
      refine s_yes rfl rfl ?_
      refine s_do rfl (d_call4 Try.call15 rfl (qLay_spec W0 _ bq pv ps pm 0 (fq 0) (pg23 8) hP qs0 ⟨0, 128, 192, 4⟩ ⟨by decide, by decide, by decide⟩ hfit)) ?_
      rintro _ B_ ⟨rfl, hB_⟩
      obtain rfl := hB_.symm
      refine s_yes rfl rfl ?_
      refine s_val rfl (v_neq rfl rfl) ?_
      refine s_val rfl (v_pick_f rfl rfl) ?_
      refine x_nil ?_
      refine n_then ?_
      refine x_if rfl ?_ ?_
      · intro c3
        first | exact absurd rfl c3 | exact absurd c3 (by simp)
      · intro c3
        refine x_skip ?_
        refine n_then ?_
        refine x_seq ?_
        refine x_region ?_
        refine s_val rfl (v_move rfl) ?_
        refine s_val rfl (v_rem rfl rfl (by decide) (tmodN taken 30)) ?_
        refine s_val rfl (v_conv Try.underlying5 Try.underlying3 rfl (w64 (by omega))) ?_
        refine s_val rfl (v_assign rfl) ?_
        refine x_nil ?_
        refine n_then ?_
        refine x_seq ?_
        refine x_seq ?_
        refine x_region ?_
        refine s_val rfl (v_assign rfl) ?_
        refine x_nil ?_
        refine n_then ?_
        refine x_block ?_
        refine x_loop (fun X : Nat × Nat => X.1 ≤ taken % 30 ∧ X.2 < 4096) (fun X => [(1, .int .u32 put), (5, .pointer (some ⟨pv, 0, none⟩)), (7, .pointer (some ⟨bq, 0, none⟩)), (8, .int .i64 (taken % 30 : Nat)), (9, .int .i64 X.1)]) (fun X => pt bq (qO true (lq X.1)) :: vwW pv ps pm X.2 (fq X.1) (pg23 8) []) (fun X => taken % 30 - X.1) (0, 0) ?_ ?_ ?_ ?_
        · exact ⟨Nat.zero_le _, by decide⟩
        · repeat (first | exact sub_nil | refine sub_cons rfl ?_)
        · exact inferInstance
        · intro ⟨i, d⟩ ⟨hi, hd⟩
          dsimp only at hi hd ⊢
          refine x_seq ?_
          refine x_seq ?_
          refine x_region ?_
          refine s_val rfl (v_move rfl) ?_
          refine s_val rfl (v_move rfl) ?_
          refine s_val rfl (v_lss rfl rfl) ?_
          refine x_nil ?_
          refine n_then ?_
          refine x_if rfl ?_ ?_
          · intro c7
            refine x_skip ?_
            refine n_then ?_
            refine x_seq ?_
            refine x_block ?_
            refine x_seq ?_
            refine x_region ?_
            refine s_val rfl (v_move rfl) ?_
            refine s_val rfl (v_move rfl) ?_
            refine s_val rfl (v_add rfl rfl (by rw [w64 (by omega)]; omega : IntKind.wrap .i64 ((i : Int) + 1) = ((i + 1 : Nat) : Int))) ?_
            refine s_val rfl (v_conv Try.underlying3 Try.underlying24 rfl (w32u (by omega))) ?_
            refine s_do rfl (d_call3 Try.call17 rfl (viSave_spec W0 _ pv ps pm d (fq i) (pg23 8) hP (fq_ok i) hd 128 (by decide) 4 (i + 1) (by omega))) ?_
            rintro _ B_ ⟨rfl, hB_⟩
            obtain rfl := hB_.symm
            rw [fq_save (i + 1) i]
            have hd' := vsvD_lt (fr := fq i) (pg := pg23 8) (pa := 128) (w := 4) hd
            generalize vsvD (fq i) (pg23 8) 128 4 d = d' at hd'
            refine x_nil ?_
            refine n_then ?_
            refine x_seq ?_
            refine x_region ?_
            refine s_val rfl (v_move rfl) ?_
            refine s_val rfl (v_move rfl) ?_
            refine s_do rfl (d_call4 Try.call18 rfl (qNext_spec W0 _ bq pv ps pm d' (fJ (i + 1)) (pg23 8) hP (fJ_ok _) (lq i) (lq_ok (by omega)))) ?_
            rintro _ B_ ⟨rfl, hB_⟩
            obtain rfl := hB_.symm
            obtain ⟨s1, s2⟩ := step_J (i := i) (by omega)
            rw [s1, s2]
            refine s_val rfl (v_move rfl) ?_
            refine s_val rfl (v_extract rfl rfl) ?_
            refine s_val rfl (v_extract rfl rfl) ?_
            refine s_val rfl (v_extract rfl rfl) ?_
            refine s_val rfl (v_assign rfl) ?_
            refine s_val rfl (v_assign rfl) ?_
            refine s_val rfl (v_assign rfl) ?_
            refine x_nil ?_
            refine n_then ?_
            refine x_seq ?_
            refine x_region ?_
            refine s_val rfl (v_move rfl) ?_
            refine s_val rfl (v_not rfl) ?_
            refine x_nil ?_
            refine n_then ?_
            refine x_if rfl ?_ ?_
            · intro c11
              first | cases c11 | exact absurd rfl c11
            · intro c11
              refine x_skip ?_
              refine n_block ?_
              refine n_then ?_
              refine x_region ?_
              refine s_val rfl (v_move rfl) ?_
              refine s_val rfl (v_add rfl rfl (by first | exact w64 (by omega) | rfl)) ?_
              refine s_val rfl (v_assign rfl) ?_
              refine x_nil ?_
              refine n_then ?_
              refine inv_intro (i + 1, d') ?_ ?_ ?_ ?_
              · exact ⟨by omega, hd'⟩
              · omega
              · repeat (first | exact sub_nil | refine sub_cons rfl ?_)
              · show Ent _ (pt bq (qO true (lq (i + 1))) :: vwW pv ps pm d' (fJ (i + 1)) (pg23 8) [])
                exact inferInstance
          · intro c7
            refine x_exit ?_
            refine e_then ?_
            refine e_then ?_
            refine e_block ?_
            refine n_then ?_
            refine x_seq ?_
            obtain rfl : i = taken % 30 := by omega
            refine x_region ?_
            refine s_val rfl (v_move rfl) ?_
            refine s_val rfl (v_move rfl) ?_
            refine s_do rfl (d_call3 Try.call17 rfl (viSave_spec W0 _ pv ps pm d (fq (taken % 30)) (pg23 8) hP (fq_ok _) hd 128 (by decide) 4 put hp)) ?_
            rintro _ B_ ⟨rfl, hB_⟩
            obtain rfl := hB_.symm
            rw [fq_save put]
            generalize vsvD (fq (taken % 30)) (pg23 8) 128 4 d = d'
            have hwt : wtN (taken % 30) put = (put % 65536 + 65536 - taken % 30) % 65536 := rfl
            refine x_nil ?_
            refine n_then ?_
            refine x_seq ?_
            refine x_region ?_
            refine s_val rfl (v_move rfl) ?_
            refine s_val rfl (v_rem rfl rfl (by decide) (tmodN put 65536)) ?_
            refine s_val rfl (v_add rfl rfl (w32u (by omega))) ?_
            refine s_val rfl (v_move rfl) ?_
            refine s_val rfl (v_conv Try.underlying3 Try.underlying24 rfl (w32u (by omega))) ?_
            refine s_val rfl (v_sub rfl rfl (by rw [w32u (by omega)]; omega : IntKind.wrap .u32 (((put % 65536 : Nat) : Int) + 65536 - ((taken % 30 : Nat) : Int)) = ((put % 65536 + 65536 - taken % 30 : Nat) : Int))) ?_
            refine s_val rfl (v_rem rfl rfl (by decide) (tmodN (put % 65536 + 65536 - taken % 30) 65536)) ?_
            refine s_val rfl (v_assign rfl) ?_
            refine x_nil ?_
            refine n_then ?_
            refine x_seq ?_
            refine x_region ?_
            refine s_val rfl (v_move rfl) ?_
            refine s_val rfl (v_move rfl) ?_
            refine s_do rfl (d_call4 Try.call18 rfl (qNext_spec W0 _ bq pv ps pm d' (fJ put) (pg23 8) hP (fJ_ok _) (lq (taken % 30)) (lq_ok (by omega)))) ?_
            rintro _ B_ ⟨rfl, hB_⟩
            obtain rfl := hB_.symm
            obtain ⟨s1, s2⟩ := jump_J (n := taken % 30) hp k
            rw [s1, s2]
            refine s_val rfl (v_move rfl) ?_
            refine s_val rfl (v_extract rfl rfl) ?_
            refine s_val rfl (v_extract rfl rfl) ?_
            refine s_val rfl (v_extract rfl rfl) ?_
            refine s_val rfl (v_assign rfl) ?_
            refine s_val rfl (v_assign rfl) ?_
            refine s_val rfl (v_assign rfl) ?_
            refine x_nil ?_
            refine n_then ?_
            refine x_seq ?_
            refine x_seq ?_
            refine x_region ?_
            refine s_val rfl (v_move rfl) ?_
            refine s_val rfl (v_gtr rfl rfl) ?_
            refine x_nil ?_
            refine n_then ?_
            refine x_if rfl ?_ ?_
            · intro c16
              refine x_seq ?_
              refine x_region ?_
              refine s_val rfl (v_move rfl) ?_
              refine s_val rfl (v_eql rfl rfl) ?_
              refine s_val rfl (v_move rfl) ?_
              refine s_and rfl rfl rfl ?_ ?_
              · intro g17_3
                refine s_val rfl (v_move rfl) ?_
                refine s_yes rfl rfl ?_
                refine s_val rfl (v_not rfl) ?_
                refine s_val rfl (v_pick_t rfl rfl) ?_
                refine s_val rfl (v_move rfl) ?_
                refine s_and rfl rfl rfl ?_ ?_
                · intro g17_7
                  refine s_val rfl (v_move rfl) ?_
                  refine s_yes rfl rfl ?_
                  refine s_val rfl (v_eql rfl rfl) ?_
                  refine s_val rfl (v_pick_t rfl rfl) ?_
                  refine s_val rfl (v_move rfl) ?_
                  refine s_and rfl rfl rfl ?_ ?_
                  · intro g17_11
                    refine s_val rfl (v_move rfl) ?_
                    refine s_yes rfl rfl ?_
                    refine s_do rfl (d_call1 Try.call19 rfl (qState_spec W0 _ bq ⟨⟨0, 128, 192, 4⟩, true, 7, taken % 30, 0⟩)) ?_
                    rintro _ B_ ⟨rfl, hB_⟩
                    obtain rfl := hB_.symm
                    refine s_yes rfl rfl ?_
                    refine s_val rfl (v_fieldV rfl Try.underlying55 rfl Try.isAgg3 rfl) ?_
                    refine s_yes rfl rfl ?_
                    refine s_val rfl (v_eql rfl rfl) ?_
                    refine s_val rfl (v_pick_t rfl rfl) ?_
                    refine s_val rfl (v_move rfl) ?_
                    refine s_and rfl rfl rfl ?_ ?_
                    · intro g17_17
                      refine s_val rfl (v_move rfl) ?_
                      refine s_yes rfl rfl ?_
                      refine s_do rfl (d_call1 Try.call19 rfl (qState_spec W0 _ bq ⟨⟨0, 128, 192, 4⟩, true, 7, taken % 30, 0⟩)) ?_
                      rintro _ B_ ⟨rfl, hB_⟩
                      obtain rfl := hB_.symm
                      refine s_yes rfl rfl ?_
                      refine s_val rfl (v_fieldV rfl Try.underlying55 rfl Try.isAgg3 rfl) ?_
                      refine s_yes rfl rfl ?_
                      refine s_val rfl (v_move rfl) ?_
                      refine s_yes rfl rfl ?_
                      refine s_val rfl (v_eql rfl rfl) ?_
                      refine s_val rfl (v_pick_t rfl rfl) ?_
                      refine s_val rfl (v_move rfl) ?_
                      refine s_and rfl rfl rfl ?_ ?_
                      · intro g17_24
                        refine s_do rfl (d_call Try.call20 rfl (awake23_spec W0 _)) ?_
                        rintro _ B_ ⟨rfl, hB_⟩
                        obtain rfl := hB_.symm
                        refine s_val rfl (v_pick_t rfl rfl) ?_
                        refine s_val rfl (v_assign rfl) ?_
                        refine x_nil ?_
                        refine n_then ?_
                        refine x_ret ?_
                        refine r_then ?_
                        refine x_done (.inl rfl) (.cons (r_tmp rfl) .nil) ?_
                        exact ⟨_, ⟨rfl, rfl⟩, inferInstance⟩
                      · intro g17_24
                        exact absurd rfl g17_24
                    · intro g17_17
                      exact absurd rfl g17_17
                  · intro g17_11
                    exact absurd rfl g17_11
                · intro g17_7
                  first | exact absurd rfl g17_7 | exact absurd (by simp) g17_7
              · intro g17_3
                exact absurd rfl g17_3
            · intro c16
              omega
  · skip
    refine spec_body Try.func4 Try.ntmps4 rfl rfl ?_
    refine x_seq ?_
    refine x_region ?_
    refine s_val rfl (v_assign rfl) ?_
    refine x_nil ?_
    refine n_then ?_
    refine x_seq ?_
    refine x_region ?_
    refine s_do rfl (d_call Try.call13 rfl (made23_spec W0 _ none 0 [] sla_nil (fun t ht => by simp at ht) (by decide))) ?_
    rintro _ B_ ⟨pv, ps, pm, qv, qs, qm, rfl, hB_⟩
    obtain rfl := hB_.symm
    rw [show (mk23 []).1 = fq 0 from rfl, show (mk23 []).2 = 0 from rfl]
    refine s_val rfl (v_move rfl) ?_
    refine s_val rfl (v_extract rfl rfl) ?_
    refine s_val rfl (v_extract rfl rfl) ?_
    refine s_val rfl (v_assign rfl) ?_
    refine s_val rfl (v_assign rfl) ?_
    refine x_nil ?_
    refine n_then ?_
    refine x_seq ?_
    refine x_region ?_
    refine s_do rfl (d_call Try.call14 rfl (qNew_spec W0 _)) ?_
    rintro _ B_ ⟨bq, rfl, hB_⟩
    obtain rfl := hB_.symm
    refine s_val rfl (v_assign rfl) ?_
    refine x_nil ?_
    refine n_then ?_
    refine x_seq ?_
    refine x_seq ?_
    refine x_region ?_
    refine s_val rfl (v_move rfl) ?_
    refine s_val rfl (v_eql_ptr_nil Try.underlying25 rfl rfl) ?_
    refine s_val rfl (v_move rfl) ?_
    refine s_or rfl rfl rfl ?_ ?_
    · intro g3_3
      cases g3_3
    · intro g3_3
      refine s_val rfl (v_move rfl) ?_
      refine s_yes rfl rfl ?_
      refine s_val rfl (v_move rfl) ?_
      refine s_yes rfl rfl ?_
      refine s_do rfl (d_call Try.call16 rfl (lies_spec W0 _)) ?_
      rintro _ B_ ⟨rfl, hB_⟩
      obtain rfl := hB_.symm
      refine s_yes rfl rfl ?_
      refine s_do rfl (d_call4 Try.call15 rfl (qLay_spec W0 _ bq pv ps pm 0 (fq 0) (pg23 8) hP qs0 ⟨0, 128, 192, 4⟩ ⟨by decide, by decide, by decide⟩ hfit)) ?_
      rintro _ B_ ⟨rfl, hB_⟩
      obtain rfl := hB_.symm
      refine s_yes rfl rfl ?_
      refine s_val rfl (v_neq rfl rfl) ?_
      refine s_val rfl (v_pick_f rfl rfl) ?_
      refine x_nil ?_
      refine n_then ?_
      refine x_if rfl ?_ ?_
      · intro c3
        first | exact absurd rfl c3 | exact absurd c3 (by simp)
      · intro c3
        refine x_skip ?_
        refine n_then ?_
        refine x_seq ?_
        refine x_region ?_
        refine s_val rfl (v_move rfl) ?_
        refine s_val rfl (v_rem rfl rfl (by decide) (tmodN taken 30)) ?_
        refine s_val rfl (v_conv Try.underlying5 Try.underlying3 rfl (w64 (by omega))) ?_
        refine s_val rfl (v_assign rfl) ?_
        refine x_nil ?_
        refine n_then ?_
        refine x_seq ?_
        refine x_seq ?_
        refine x_region ?_
        refine s_val rfl (v_assign rfl) ?_
        refine x_nil ?_
        refine n_then ?_
        refine x_block ?_
        refine x_loop (fun X : Nat × Nat => X.1 ≤ taken % 30 ∧ X.2 < 4096) (fun X => [(1, .int .u32 put), (5, .pointer (some ⟨pv, 0, none⟩)), (7, .pointer (some ⟨bq, 0, none⟩)), (8, .int .i64 (taken % 30 : Nat)), (9, .int .i64 X.1)]) (fun X => pt bq (qO true (lq X.1)) :: vwW pv ps pm X.2 (fq X.1) (pg23 8) []) (fun X => taken % 30 - X.1) (0, 0) ?_ ?_ ?_ ?_
        · exact ⟨Nat.zero_le _, by decide⟩
        · repeat (first | exact sub_nil | refine sub_cons rfl ?_)
        · exact inferInstance
        · intro ⟨i, d⟩ ⟨hi, hd⟩
          dsimp only at hi hd ⊢
          refine x_seq ?_
          refine x_seq ?_
          refine x_region ?_
          refine s_val rfl (v_move rfl) ?_
          refine s_val rfl (v_move rfl) ?_
          refine s_val rfl (v_lss rfl rfl) ?_
          refine x_nil ?_
          refine n_then ?_
          refine x_if rfl ?_ ?_
          · intro c7
            refine x_skip ?_
            refine n_then ?_
            refine x_seq ?_
            refine x_block ?_
            refine x_seq ?_
            refine x_region ?_
            refine s_val rfl (v_move rfl) ?_
            refine s_val rfl (v_move rfl) ?_
            refine s_val rfl (v_add rfl rfl (by rw [w64 (by omega)]; omega : IntKind.wrap .i64 ((i : Int) + 1) = ((i + 1 : Nat) : Int))) ?_
            refine s_val rfl (v_conv Try.underlying3 Try.underlying24 rfl (w32u (by omega))) ?_
            refine s_do rfl (d_call3 Try.call17 rfl (viSave_spec W0 _ pv ps pm d (fq i) (pg23 8) hP (fq_ok i) hd 128 (by decide) 4 (i + 1) (by omega))) ?_
            rintro _ B_ ⟨rfl, hB_⟩
            obtain rfl := hB_.symm
            rw [fq_save (i + 1) i]
            have hd' := vsvD_lt (fr := fq i) (pg := pg23 8) (pa := 128) (w := 4) hd
            generalize vsvD (fq i) (pg23 8) 128 4 d = d' at hd'
            refine x_nil ?_
            refine n_then ?_
            refine x_seq ?_
            refine x_region ?_
            refine s_val rfl (v_move rfl) ?_
            refine s_val rfl (v_move rfl) ?_
            refine s_do rfl (d_call4 Try.call18 rfl (qNext_spec W0 _ bq pv ps pm d' (fJ (i + 1)) (pg23 8) hP (fJ_ok _) (lq i) (lq_ok (by omega)))) ?_
            rintro _ B_ ⟨rfl, hB_⟩
            obtain rfl := hB_.symm
            obtain ⟨s1, s2⟩ := step_J (i := i) (by omega)
            rw [s1, s2]
            refine s_val rfl (v_move rfl) ?_
            refine s_val rfl (v_extract rfl rfl) ?_
            refine s_val rfl (v_extract rfl rfl) ?_
            refine s_val rfl (v_extract rfl rfl) ?_
            refine s_val rfl (v_assign rfl) ?_
            refine s_val rfl (v_assign rfl) ?_
            refine s_val rfl (v_assign rfl) ?_
            refine x_nil ?_
            refine n_then ?_
            refine x_seq ?_
            refine x_region ?_
            refine s_val rfl (v_move rfl) ?_
            refine s_val rfl (v_not rfl) ?_
            refine x_nil ?_
            refine n_then ?_
            refine x_if rfl ?_ ?_
            · intro c11
              first | cases c11 | exact absurd rfl c11
            · intro c11
              refine x_skip ?_
              refine n_block ?_
              refine n_then ?_
              refine x_region ?_
              refine s_val rfl (v_move rfl) ?_
              refine s_val rfl (v_add rfl rfl (by first | exact w64 (by omega) | rfl)) ?_
              refine s_val rfl (v_assign rfl) ?_
              refine x_nil ?_
              refine n_then ?_
              refine inv_intro (i + 1, d') ?_ ?_ ?_ ?_
              · exact ⟨by omega, hd'⟩
              · omega
              · repeat (first | exact sub_nil | refine sub_cons rfl ?_)
              · show Ent _ (pt bq (qO true (lq (i + 1))) :: vwW pv ps pm d' (fJ (i + 1)) (pg23 8) [])
                exact inferInstance
          · intro c7
            refine x_exit ?_
            refine e_then ?_
            refine e_then ?_
            refine e_block ?_
            refine n_then ?_
            refine x_seq ?_
            obtain rfl : i = taken % 30 := by omega
            refine x_region ?_
            refine s_val rfl (v_move rfl) ?_
            refine s_val rfl (v_move rfl) ?_
            refine s_do rfl (d_call3 Try.call17 rfl (viSave_spec W0 _ pv ps pm d (fq (taken % 30)) (pg23 8) hP (fq_ok _) hd 128 (by decide) 4 put hp)) ?_
            rintro _ B_ ⟨rfl, hB_⟩
            obtain rfl := hB_.symm
            rw [fq_save put]
            generalize vsvD (fq (taken % 30)) (pg23 8) 128 4 d = d'
            have hwt : wtN (taken % 30) put = (put % 65536 + 65536 - taken % 30) % 65536 := rfl
            refine x_nil ?_
            refine n_then ?_
            refine x_seq ?_
            refine x_region ?_
            refine s_val rfl (v_move rfl) ?_
            refine s_val rfl (v_rem rfl rfl (by decide) (tmodN put 65536)) ?_
            refine s_val rfl (v_add rfl rfl (w32u (by omega))) ?_
            refine s_val rfl (v_move rfl) ?_
            refine s_val rfl (v_conv Try.underlying3 Try.underlying24 rfl (w32u (by omega))) ?_
            refine s_val rfl (v_sub rfl rfl (by rw [w32u (by omega)]; omega : IntKind.wrap .u32 (((put % 65536 : Nat) : Int) + 65536 - ((taken % 30 : Nat) : Int)) = ((put % 65536 + 65536 - taken % 30 : Nat) : Int))) ?_
            refine s_val rfl (v_rem rfl rfl (by decide) (tmodN (put % 65536 + 65536 - taken % 30) 65536)) ?_
            refine s_val rfl (v_assign rfl) ?_
            refine x_nil ?_
            refine n_then ?_
            refine x_seq ?_
            refine x_region ?_
            refine s_val rfl (v_move rfl) ?_
            refine s_val rfl (v_move rfl) ?_
            refine s_do rfl (d_call4 Try.call18 rfl (qNext_spec W0 _ bq pv ps pm d' (fJ put) (pg23 8) hP (fJ_ok _) (lq (taken % 30)) (lq_ok (by omega)))) ?_
            rintro _ B_ ⟨rfl, hB_⟩
            obtain rfl := hB_.symm
            rw [stay_J (n := taken % 30) hp k]
            refine s_val rfl (v_move rfl) ?_
            refine s_val rfl (v_extract rfl rfl) ?_
            refine s_val rfl (v_extract rfl rfl) ?_
            refine s_val rfl (v_extract rfl rfl) ?_
            refine s_val rfl (v_assign rfl) ?_
            refine s_val rfl (v_assign rfl) ?_
            refine s_val rfl (v_assign rfl) ?_
            refine x_nil ?_
            refine n_then ?_
            refine x_seq ?_
            refine x_seq ?_
            refine x_region ?_
            refine s_val rfl (v_move rfl) ?_
            refine s_val rfl (v_gtr rfl rfl) ?_
            refine x_nil ?_
            refine n_then ?_
            refine x_if rfl ?_ ?_
            · intro c16
              omega
            · intro c16
              refine x_skip ?_
              refine n_then ?_
              refine x_seq ?_
              refine x_region ?_
              refine s_val rfl (v_move rfl) ?_
              refine s_val rfl (v_move rfl) ?_
              refine s_val rfl (v_gtr rfl rfl) ?_
              refine s_val rfl (v_eql_bool Try.underlying4 rfl rfl) ?_
              refine s_val rfl (v_move rfl) ?_
              refine s_and rfl rfl rfl ?_ ?_
              · intro g18_5
                refine s_val rfl (v_move rfl) ?_
                refine s_yes rfl rfl ?_
                refine s_val rfl (v_eql rfl rfl) ?_
                refine s_val rfl (v_pick_t rfl rfl) ?_
                refine s_val rfl (v_move rfl) ?_
                refine s_and rfl rfl rfl ?_ ?_
                · intro g18_9
                  refine s_do rfl (d_call Try.call20 rfl (awake23_spec W0 _)) ?_
                  rintro _ B_ ⟨rfl, hB_⟩
                  obtain rfl := hB_.symm
                  refine s_val rfl (v_pick_t rfl rfl) ?_
                  refine s_val rfl (v_assign rfl) ?_
                  refine x_nil ?_
                  refine n_then ?_
                  refine x_ret ?_
                  refine x_done (.inl rfl) (.cons (r_tmp rfl) .nil) ?_
                  exact ⟨_, ⟨rfl, rfl⟩, inferInstance⟩
                · intro g18_9
                  exact absurd rfl g18_9
              · intro g18_5
                exact absurd (by rw [Bool.eq_iff_iff]; simp; omega) g18_5
end Go.Proofs.Ytalpgipkkdlpgaa
