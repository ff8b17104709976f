/-
  Layer 18 (stlb): the laws' walks.
-/
import Derived.Test.YtpmacnfjafpdcaaStlbD
import Derived.Test.YtpmacnfjafpdcaaLaw
namespace Go.Proofs.Ytpmacnfjafpdcaa
open Go.RowKit
set_option linter.unusedSimpArgs false
set_option linter.unusedVariables false
set_option maxRecDepth 20000

theorem awake18_spec (W0 : World) (R : List HP) : Spec Try.prog W0 30 [] R (fun v B => v = .bool true ∧ B = R) := by
  refine spec_body Try.func30 Try.ntmps30 rfl rfl ?_
  refine x_seq ?_
  refine x_region ?_
  refine s_val rfl (v_assign rfl) ?_
  refine x_nil ?_
  refine n_then ?_
  refine x_seq ?_
  refine x_region ?_
  refine s_do rfl (d_call Try.call26 rfl (New_spec W0 _ 1 (by decide))) ?_
  rintro _ _ ⟨b, rfl, rfl⟩
  refine s_val rfl (v_move rfl) ?_
  refine s_val rfl (v_extract rfl rfl) ?_
  refine s_val rfl (v_extract rfl rfl) ?_
  refine s_val rfl (v_assign rfl) ?_
  refine s_val rfl (v_assign rfl) ?_
  refine x_nil ?_
  refine n_then ?_
  refine x_seq ?_
  refine x_region ?_
  refine s_val rfl (v_move rfl) ?_
  refine s_val rfl (v_neq_ptr_nil Try.underlying45 rfl rfl) ?_
  refine s_val rfl (v_move rfl) ?_
  refine s_and rfl rfl rfl ?_ ?_
  · intro g2_3
    refine s_val rfl (v_move rfl) ?_
    refine s_yes rfl rfl ?_
    refine s_val rfl (v_eql rfl rfl) ?_
    refine s_val rfl (v_pick_t rfl rfl) ?_
    refine s_val rfl (v_move rfl) ?_
    refine s_and rfl rfl rfl ?_ ?_
    · intro g2_7
      refine s_val rfl (v_move rfl) ?_
      refine s_yes rfl rfl ?_
      refine s_val rfl (v_build Try.underlying41 Try.zeroValue41 (sized_cons Try.sizeOf3 (sized_cons Try.sizeOf3 sized_nil)) fil_nil) ?_
      refine s_yes rfl rfl ?_
      refine s_val rfl (v_build Try.underlying43 Try.zeroValue43 (sized_cons Try.sizeOf3 (sized_cons Try.sizeOf3 (sized_cons Try.sizeOf3 sized_nil))) fil_nil) ?_
      refine s_yes rfl rfl ?_
      refine s_do rfl (d_call1 Try.call27 rfl (Put_spec18 W0 _ b [] 1 0 [] (0, 0) (0, 0, 0) Rep.nil (by simp) (by decide) (by decide))) ?_
      rintro _ _ ⟨rfl, its, rfl, hR⟩
      refine s_yes rfl rfl ?_
      refine s_val rfl (v_eql rfl rfl) ?_
      refine s_val rfl (v_pick_t rfl rfl) ?_
      refine s_val rfl (v_move rfl) ?_
      refine s_and rfl rfl rfl ?_ ?_
      · intro g2_14
        refine s_val rfl (v_move rfl) ?_
        refine s_yes rfl rfl ?_
        refine s_do rfl (d_call1 Try.call29 rfl (Len_spec W0 _ b its _ _)) ?_
        rintro _ _ ⟨rfl, rfl⟩
        refine s_yes rfl rfl ?_
        refine s_val rfl (v_eql rfl rfl) ?_
        refine s_val rfl (v_pick_t rfl rfl) ?_
        refine s_val rfl (v_assign rfl) ?_
        refine x_nil ?_
        refine n_then ?_
        refine x_ret ?_
        refine x_done (.inl rfl) (.cons (r_tmp rfl) .nil) ?_
        refine ⟨_, ⟨?_, rfl⟩, inferInstance⟩
        have hl := hR.length
        simp [putL, putBack, without] at hl
        simp [pack, hl]
      · intro g2_14
        exact absurd rfl g2_14
    · intro g2_7
      exact absurd rfl g2_7
  · intro g2_3
    exact absurd g2_3 (by simp)

theorem rem3 (w : Nat) (h : w < 256) : IntKind.wrap .i64 (2 + ((w % 3 : Nat) : Int)) = ((2 + w % 3 : Nat) : Int) := by rw [w64 (by omega)]; omega
theorem StlbUsed_walk (W0 : World) (w : Nat) (hw : w < 256) (k : Key) (e : Ent3) (a : Option Addr) (c : Nat) (ks : List Key) (hks : SlB W0 a 2 keyV ks) :
    Spec Try.prog W0 7 [.int .u8 w, .agg (keyV k).toArray, .agg (entV e).toArray, .slice a ks.length c] [] (fun v B => v = .bool true ∧ B = []) := by
  refine spec_body Try.func7 Try.ntmps7 rfl rfl ?_
  refine x_seq ?_
  refine x_region ?_
  refine s_do rfl (d_boxA rfl) ?_
  rintro _ _ ⟨b1, rfl, rfl⟩
  refine s_do rfl (d_boxA rfl) ?_
  rintro _ _ ⟨b2, rfl, rfl⟩
  refine s_val rfl (v_assign rfl) ?_
  refine x_nil ?_
  refine n_then ?_
  refine x_seq ?_
  refine x_region ?_
  refine s_val rfl (v_move rfl) ?_
  refine s_val rfl (v_rem rfl rfl (by decide) (tmodN w 3)) ?_
  refine s_val rfl (v_conv Try.underlying5 Try.underlying3 rfl (by first | exact w64 (by omega) | rfl)) ?_
  refine s_val rfl (v_add rfl rfl (rem3 w hw)) ?_
  refine s_val rfl (v_assign rfl) ?_
  refine x_nil ?_
  refine n_then ?_
  refine x_seq ?_
  refine x_region ?_
  refine s_val rfl (v_move rfl) ?_
  refine s_do rfl (d_call Try.call26 rfl (New_spec W0 _ (2 + w % 3) (by omega))) ?_
  rintro _ _ ⟨b, rfl, rfl⟩
  refine s_val rfl (v_move rfl) ?_
  refine s_val rfl (v_extract rfl rfl) ?_
  refine s_val rfl (v_extract rfl rfl) ?_
  refine s_val rfl (v_assign rfl) ?_
  refine s_val rfl (v_assign rfl) ?_
  refine x_nil ?_
  refine n_then ?_
  refine x_seq ?_
  refine x_seq ?_
  refine x_region ?_
  refine s_val rfl (v_move rfl) ?_
  refine s_val rfl (v_eql_ptr_nil Try.underlying45 rfl rfl) ?_
  refine s_val rfl (v_move rfl) ?_
  refine s_or rfl rfl rfl ?_ ?_
  · intro g3_3
    exact absurd g3_3 (by simp)
  · intro g3_3
    refine s_val rfl (v_move rfl) ?_
    refine s_yes rfl rfl ?_
    refine s_val rfl (v_neq rfl rfl) ?_
    refine s_val rfl (v_pick_f rfl rfl) ?_
    refine x_nil ?_
    refine n_then ?_
    refine x_if rfl ?_ ?_
    · intro c3
      exact absurd c3 (by simp)
    · intro c3
      refine x_skip ?_
      refine n_then ?_
      refine x_seq ?_
      refine x_region ?_
      refine s_val rfl (v_move rfl) ?_
      refine s_val rfl (v_loadAll Try.isAgg41 Try.sizeOf41 rfl rfl) ?_
      refine s_val rfl (v_loadAll Try.isAgg43 Try.sizeOf43 rfl rfl) ?_
      refine s_do rfl (d_call1 Try.call27 rfl (Put_spec18 W0 _ b [] (2 + w % 3) 0 [] k e Rep.nil (by simp) (by omega) (by decide))) ?_
      rintro _ _ ⟨rfl, its, rfl, hR⟩
      refine x_nil ?_
      refine n_then ?_
      refine x_seq ?_
      refine x_seq ?_
      refine x_region ?_
      refine s_val rfl (v_assign rfl) ?_
      refine x_nil ?_
      refine n_then ?_
      refine x_block ?_
      refine x_loop (fun X : List It × Nat × List It × Nat => Rep X.1 X.2.1 X.2.2.1 ∧ X.2.2.1.length ≤ 2 + w % 3 ∧ (∃ y, findK k X.2.2.1 = some y ∧ y.ent = e) ∧ X.2.2.2 ≤ 60 ∧ X.2.2.2 ≤ ks.length ∧ X.2.1 ≤ 2 * X.2.2.2 + 1) (fun X => [(3, .slice a ks.length c), (5, .pointer (some ⟨b1, 0, none⟩)), (6, .pointer (some ⟨b2, 0, none⟩)), (9, .int .i64 (2 + w % 3 : Nat)), (10, .pointer (some ⟨b, 0, none⟩)), (12, .int .i64 X.2.2.2)]) (fun X => [pt b1 (cob (keyV k) 41), pt b2 (cob (entV e) 43), rowH b (X.1, tlV (2 + w % 3) X.2.1)]) (fun X => 60 - X.2.2.2) (its, 1, putL (2 + w % 3) 0 k e [], 0) ?_ ?_ ?_ ?_
      · exact ⟨hR, putL_len (by simp), ⟨mkIt k e (1 : Nat), by rw [putL, if_neg (by simp [putBack, without])]; exact find_putBack rfl, rfl⟩, Nat.zero_le _, Nat.zero_le _, Nat.le_refl 1⟩
      · repeat (first | exact sub_nil | refine sub_cons rfl ?_)
      · exact inferInstance
      · intro ⟨its, now, L, i⟩ ⟨hR, hL, ⟨y, hy, hye⟩, hi60, hin, hnow⟩
        simp only at hR hL hy hi60 hin hnow ⊢
        have hv : getV k L = .tuple #[.agg (entV e).toArray, .bool true] := by simp only [getV, hy, hye]
        refine x_seq ?_
        refine x_seq ?_
        refine x_region ?_
        refine s_val rfl (v_move rfl) ?_
        refine s_val rfl (v_move rfl) ?_
        refine s_val rfl (v_len_slice Try.underlying44 rfl) ?_
        refine s_val rfl (v_lss rfl rfl) ?_
        refine s_val rfl (v_move rfl) ?_
        refine s_and rfl rfl rfl ?_ ?_
        · intro g7_5
          refine s_val rfl (v_move rfl) ?_
          refine s_yes rfl rfl ?_
          refine s_val rfl (v_lss rfl rfl) ?_
          refine s_val rfl (v_pick_t rfl rfl) ?_
          refine x_nil ?_
          refine n_then ?_
          refine x_if rfl ?_ ?_
          · intro c7
            refine x_skip ?_
            refine n_then ?_
            refine x_cut (fun Z : List It × Nat × List It => Rep Z.1 Z.2.1 Z.2.2 ∧ Z.2.2.length ≤ 2 + w % 3 ∧ (∃ y, findK k Z.2.2 = some y ∧ y.ent = e) ∧ Z.2.1 ≤ 2 * (i + 1) + 1) (fun Z => [(3, .slice a ks.length c), (5, .pointer (some ⟨b1, 0, none⟩)), (6, .pointer (some ⟨b2, 0, none⟩)), (9, .int .i64 (2 + w % 3 : Nat)), (10, .pointer (some ⟨b, 0, none⟩)), (12, .int .i64 i)]) (fun Z => [pt b1 (cob (keyV k) 41), pt b2 (cob (entV e) 43), rowH b (Z.1, tlV (2 + w % 3) Z.2.1)]) ?_ ?_
            · skip
              refine x_block ?_
              refine x_seq ?_
              refine x_region ?_
              refine s_val rfl (v_move rfl) ?_
              refine s_val rfl (v_loadAll Try.isAgg41 Try.sizeOf41 rfl rfl) ?_
              refine s_do rfl (d_call1 Try.call28 rfl (Get_spec18 W0 _ b its (2 + w % 3) now L k hR hL (by omega) (by omega))) ?_
              rintro _ _ ⟨rfl, its', now', hn', rfl, hR'⟩
              rw [hv]
              rw [getL_some hy, hye] at hR'
              have hL' : (putBack k (mkIt k e (now + 1 : Nat)) L).length ≤ 2 + w % 3 := by have := @getL_len now k L; rw [getL_some hy, hye] at this; omega
              refine s_val rfl (v_move rfl) ?_
              refine s_val rfl (v_extract rfl rfl) ?_
              refine s_val rfl (v_extract rfl rfl) ?_
              refine s_do rfl (d_allocA Try.zeroValue43) ?_
              rintro _ _ ⟨b3, rfl, rfl⟩
              refine s_do0 (d_storeAll Try.sizeOf43 rfl rfl rfl rfl rfl) ?_
              rintro _ _ rfl
              refine s_val rfl (v_assign rfl) ?_
              refine x_nil ?_
              refine n_then ?_
              refine x_seq ?_
              refine x_seq ?_
              refine x_region ?_
              refine s_val rfl (v_move rfl) ?_
              refine s_val rfl (v_not rfl) ?_
              refine s_val rfl (v_move rfl) ?_
              refine s_or rfl rfl rfl ?_ ?_
              · intro g10_3
                exact absurd g10_3 (by simp)
              · intro g10_3
                refine s_val rfl (v_loadAll Try.isAgg43 Try.sizeOf43 rfl rfl) ?_
                refine s_yes rfl rfl ?_
                refine s_val rfl (v_loadAll Try.isAgg43 Try.sizeOf43 rfl rfl) ?_
                refine s_yes rfl rfl ?_
                refine s_val rfl (v_neq_agg Try.eqGuardType43 rfl rfl (q_struct Try.underlying43 Try.stoodInHeld43 (qf_scal rfl Try.isAgg3 rfl rfl (q_int Try.underlying3) (qf_scal rfl Try.isAgg3 rfl rfl (q_int Try.underlying3) (qf_scal rfl Try.isAgg3 rfl rfl (q_int Try.underlying3) qf_nil))))) ?_
                refine s_val rfl (v_pick_f rfl rfl) ?_
                refine x_nil ?_
                refine n_then ?_
                refine x_if rfl ?_ ?_
                · intro c10
                  exact absurd c10 (by simp)
                · intro c10
                  refine x_skip ?_
                  refine n_then ?_
                  refine x_seq ?_
                  obtain ⟨kk, hkk⟩ : ∃ kk, ks[i]? = some kk := ⟨ks[i], by simp⟩
                  obtain ⟨bl, off, rfl, hc⟩ := hks i kk hkk
                  refine x_draw [(bl, off + i * 2, keyV kk), (b1, 0, keyV k)] 6 mixed rfl (sc_cons (hc _) (sc_own sc_end)) (fun hS => ?_)
                  refine d_take 0 rfl rfl (by kernel_rfl) (by kernel_rfl) (by kernel_rfl) rfl hS (v_move rfl) ?_
                  refine d_take 1 rfl rfl (by kernel_rfl) (by kernel_rfl) (by kernel_rfl) rfl hS (v_move rfl) ?_
                  refine d_take 2 rfl rfl (by kernel_rfl) (by kernel_rfl) (by kernel_rfl) rfl hS (v_idx Try.underlying44 Try.sizeOf41 rfl rfl rfl (by omega) (by first | exact Nat.zero_add _ | rfl)) ?_
                  refine d_take 3 rfl rfl (by kernel_rfl) (by kernel_rfl) (by kernel_rfl) rfl hS (v_loadAgg Try.isAgg41 Try.sizeOf41 rfl (by first | exact cells_sc (k := 0) rfl | exact cells_sc (k := 1) rfl) rfl) ?_
                  refine d_take 4 rfl rfl (by kernel_rfl) (by kernel_rfl) (by kernel_rfl) rfl hS (v_loadAgg Try.isAgg41 Try.sizeOf41 rfl (by first | exact cells_sc (k := 0) rfl | exact cells_sc (k := 1) rfl) rfl) ?_
                  refine d_take 5 rfl rfl (by kernel_rfl) (by kernel_rfl) (by kernel_rfl) rfl hS (v_neq_agg Try.eqGuardType41 rfl rfl (q_struct Try.underlying41 Try.stoodInHeld41 (qf_scal rfl Try.isAgg3 rfl rfl (q_int Try.underlying3) (qf_scal rfl Try.isAgg3 rfl rfl (q_int Try.underlying3) qf_nil)))) ?_
                  refine d_done (by kernel_rfl) ?_; clear hS
                  refine n_then ?_
                  refine x_if rfl ?_ ?_
                  · intro c12
                    have hkn : kk ≠ k := by simpa [Prod.ext_iff] using c12
                    refine x_region ?_
                    refine s_val rfl (v_move rfl) ?_
                    refine s_val rfl (v_move rfl) ?_
                    refine s_val rfl (v_move rfl) ?_
                    refine s_val rfl (v_idx Try.underlying44 Try.sizeOf41 rfl rfl rfl (by omega) (by first | exact Nat.zero_add _ | rfl)) ?_
                    refine s_val rfl (v_loadAgg Try.isAgg41 Try.sizeOf41 rfl (hc _) rfl) ?_
                    refine s_val rfl (v_move rfl) ?_
                    refine s_val rfl (v_build Try.underlying43 Try.zeroValue43 (sized_cons Try.sizeOf3 (sized_cons Try.sizeOf3 (sized_cons Try.sizeOf3 sized_nil))) (fil_scal rfl Try.sizeOf3 rfl rfl (Nat.le_of_ble_eq_true rfl) SetL.eq fil_nil)) ?_
                    refine s_do rfl (d_call1 Try.call27 rfl (Put_spec18 W0 _ b its' (2 + w % 3) now' _ kk ((i : Int), 0, 0) hR' hL' (by omega) (by omega))) ?_
                    rintro _ _ ⟨rfl, its2, rfl, hR2⟩
                    refine x_nil ?_
                    refine n_block ?_
                    refine n_then ?_
                    refine mid_intro (its2, now' + 1, putL (2 + w % 3) now' kk ((i : Int), 0, 0) (putBack k (mkIt k e (now + 1 : Nat)) L)) ?_ ?_ ?_
                    · exact ⟨hR2, putL_len hL', ⟨_, used_stays (by omega) rfl hkn hR2.keys, rfl⟩, by show now' + 1 ≤ 2 * (i + 1) + 1; omega⟩
                    · repeat (first | exact sub_nil | refine sub_cons rfl ?_)
                    · exact inferInstance
                  · intro c12
                    refine x_skip ?_
                    refine n_block ?_
                    refine n_then ?_
                    refine mid_intro (its', now', putBack k (mkIt k e (now + 1 : Nat)) L) ?_ ?_ ?_
                    · exact ⟨hR', hL', ⟨_, find_putBack rfl, rfl⟩, by show now' ≤ 2 * (i + 1) + 1; omega⟩
                    · repeat (first | exact sub_nil | refine sub_cons rfl ?_)
                    · exact inferInstance
            · intro ⟨its3, now3, L3⟩ ⟨hR3, hL3, hy3, hnow3⟩
              refine x_region ?_
              refine s_val rfl (v_move rfl) ?_
              refine s_val rfl (v_add rfl rfl (by first | exact w64 (by omega) | rfl)) ?_
              refine s_val rfl (v_assign rfl) ?_
              refine x_nil ?_
              refine n_then ?_
              refine inv_intro (its3, now3, L3, i + 1) ?_ ?_ ?_ ?_
              · exact ⟨hR3, hL3, hy3, by show i + 1 ≤ 60; omega, by show i + 1 ≤ ks.length; omega, hnow3⟩
              · show 60 - (i + 1) < 60 - i; omega
              · repeat (first | exact sub_nil | refine sub_cons rfl ?_)
              · exact inferInstance
          · intro c7
            refine x_exit ?_
            refine e_then ?_
            refine e_then ?_
            refine e_block ?_
            refine n_then ?_
            refine x_seq ?_
            refine x_region ?_
            refine s_val rfl (v_move rfl) ?_
            refine s_val rfl (v_loadAll Try.isAgg41 Try.sizeOf41 rfl rfl) ?_
            refine s_do rfl (d_call1 Try.call28 rfl (Get_spec18 W0 _ b its (2 + w % 3) now L k hR hL (by omega) (by omega))) ?_
            rintro _ _ ⟨rfl, its', now', hn', rfl, hR'⟩
            rw [hv]
            rw [getL_some hy, hye] at hR'
            have hL' : (putBack k (mkIt k e (now + 1 : Nat)) L).length ≤ 2 + w % 3 := by have := @getL_len now k L; rw [getL_some hy, hye] at this; omega
            have hlen := hR'.length
            refine s_val rfl (v_move rfl) ?_
            refine s_val rfl (v_extract rfl rfl) ?_
            refine s_val rfl (v_extract rfl rfl) ?_
            refine s_do rfl (d_allocA Try.zeroValue43) ?_
            rintro _ _ ⟨b4, rfl, rfl⟩
            refine s_do0 (d_storeAll Try.sizeOf43 rfl rfl rfl rfl rfl) ?_
            rintro _ _ rfl
            refine s_val rfl (v_assign rfl) ?_
            refine x_nil ?_
            refine n_then ?_
            refine x_seq ?_
            refine x_region ?_
            refine s_val rfl (v_move rfl) ?_
            refine s_val rfl (v_move rfl) ?_
            refine s_and rfl rfl rfl ?_ ?_
            · intro g15_2
              refine s_val rfl (v_loadAll Try.isAgg43 Try.sizeOf43 rfl rfl) ?_
              refine s_yes rfl rfl ?_
              refine s_val rfl (v_loadAll Try.isAgg43 Try.sizeOf43 rfl rfl) ?_
              refine s_yes rfl rfl ?_
              refine s_val rfl (v_eql_agg Try.eqGuardType43 rfl rfl (q_struct Try.underlying43 Try.stoodInHeld43 (qf_scal rfl Try.isAgg3 rfl rfl (q_int Try.underlying3) (qf_scal rfl Try.isAgg3 rfl rfl (q_int Try.underlying3) (qf_scal rfl Try.isAgg3 rfl rfl (q_int Try.underlying3) qf_nil))))) ?_
              refine s_val rfl (v_pick_t rfl rfl) ?_
              refine s_val rfl (v_move rfl) ?_
              refine s_and rfl rfl rfl ?_ ?_
              · intro g15_7
                refine s_val rfl (v_move rfl) ?_
                refine s_yes rfl rfl ?_
                refine s_do rfl (d_call1 Try.call29 rfl (Len_spec W0 _ b its' _ _)) ?_
                rintro _ _ ⟨rfl, rfl⟩
                refine s_yes rfl rfl ?_
                refine s_val rfl (v_move rfl) ?_
                refine s_yes rfl rfl ?_
                refine s_val rfl (v_leq rfl rfl) ?_
                refine s_val rfl (v_pick_t rfl rfl) ?_
                refine s_val rfl (v_move rfl) ?_
                refine s_and rfl rfl rfl ?_ ?_
                · intro g15_13
                  refine s_do rfl (d_call Try.call30 rfl (awake18_spec W0 _)) ?_
                  rintro _ _ ⟨rfl, rfl⟩
                  refine s_val rfl (v_pick_t rfl rfl) ?_
                  refine s_val rfl (v_assign rfl) ?_
                  refine x_nil ?_
                  refine n_then ?_
                  refine x_ret ?_
                  refine x_done (.inl rfl) (.cons (r_tmp rfl) .nil) ?_
                  exact ⟨_, ⟨rfl, rfl⟩, inferInstance⟩
                · intro g15_13
                  exact absurd g15_13 (by simp; try omega)
              · intro g15_7
                exact absurd g15_7 (by simp)
            · intro g15_2
              exact absurd g15_2 (by simp)
        · intro g7_5
          refine s_no rfl rfl rfl rfl ?_
          refine s_val rfl (v_pick_f rfl rfl) ?_
          refine x_nil ?_
          refine n_then ?_
          refine x_iff rfl ?_
          refine x_exit ?_
          refine e_then ?_
          refine e_then ?_
          refine e_block ?_
          refine n_then ?_
          refine x_seq ?_
          refine x_region ?_
          refine s_val rfl (v_move rfl) ?_
          refine s_val rfl (v_loadAll Try.isAgg41 Try.sizeOf41 rfl rfl) ?_
          refine s_do rfl (d_call1 Try.call28 rfl (Get_spec18 W0 _ b its (2 + w % 3) now L k hR hL (by omega) (by omega))) ?_
          rintro _ _ ⟨rfl, its', now', hn', rfl, hR'⟩
          rw [hv]
          rw [getL_some hy, hye] at hR'
          have hL' : (putBack k (mkIt k e (now + 1 : Nat)) L).length ≤ 2 + w % 3 := by have := @getL_len now k L; rw [getL_some hy, hye] at this; omega
          have hlen := hR'.length
          refine s_val rfl (v_move rfl) ?_
          refine s_val rfl (v_extract rfl rfl) ?_
          refine s_val rfl (v_extract rfl rfl) ?_
          refine s_do rfl (d_allocA Try.zeroValue43) ?_
          rintro _ _ ⟨b5, rfl, rfl⟩
          refine s_do0 (d_storeAll Try.sizeOf43 rfl rfl rfl rfl rfl) ?_
          rintro _ _ rfl
          refine s_val rfl (v_assign rfl) ?_
          refine x_nil ?_
          refine n_then ?_
          refine x_seq ?_
          refine x_region ?_
          refine s_val rfl (v_move rfl) ?_
          refine s_val rfl (v_move rfl) ?_
          refine s_and rfl rfl rfl ?_ ?_
          · intro g15_2
            refine s_val rfl (v_loadAll Try.isAgg43 Try.sizeOf43 rfl rfl) ?_
            refine s_yes rfl rfl ?_
            refine s_val rfl (v_loadAll Try.isAgg43 Try.sizeOf43 rfl rfl) ?_
            refine s_yes rfl rfl ?_
            refine s_val rfl (v_eql_agg Try.eqGuardType43 rfl rfl (q_struct Try.underlying43 Try.stoodInHeld43 (qf_scal rfl Try.isAgg3 rfl rfl (q_int Try.underlying3) (qf_scal rfl Try.isAgg3 rfl rfl (q_int Try.underlying3) (qf_scal rfl Try.isAgg3 rfl rfl (q_int Try.underlying3) qf_nil))))) ?_
            refine s_val rfl (v_pick_t rfl rfl) ?_
            refine s_val rfl (v_move rfl) ?_
            refine s_and rfl rfl rfl ?_ ?_
            · intro g15_7
              refine s_val rfl (v_move rfl) ?_
              refine s_yes rfl rfl ?_
              refine s_do rfl (d_call1 Try.call29 rfl (Len_spec W0 _ b its' _ _)) ?_
              rintro _ _ ⟨rfl, rfl⟩
              refine s_yes rfl rfl ?_
              refine s_val rfl (v_move rfl) ?_
              refine s_yes rfl rfl ?_
              refine s_val rfl (v_leq rfl rfl) ?_
              refine s_val rfl (v_pick_t rfl rfl) ?_
              refine s_val rfl (v_move rfl) ?_
              refine s_and rfl rfl rfl ?_ ?_
              · intro g15_13
                refine s_do rfl (d_call Try.call30 rfl (awake18_spec W0 _)) ?_
                rintro _ _ ⟨rfl, rfl⟩
                refine s_val rfl (v_pick_t rfl rfl) ?_
                refine s_val rfl (v_assign rfl) ?_
                refine x_nil ?_
                refine n_then ?_
                refine x_ret ?_
                refine x_done (.inl rfl) (.cons (r_tmp rfl) .nil) ?_
                exact ⟨_, ⟨rfl, rfl⟩, inferInstance⟩
              · intro g15_13
                exact absurd g15_13 (by simp; try omega)
            · intro g15_7
              exact absurd g15_7 (by simp)
          · intro g15_2
            exact absurd g15_2 (by simp)

/-- What is seen behind a Put: there if there is room at all. -/
theorem room_seen {room now now' : Nat} {k : Key} {e : Ent3} {its L : List It} (hL : L.length ≤ room) (hR : Rep its (now + 1) (putL room now k e L)) :
    ∃ ok ee, getV k (putL room now k e L) = .tuple #[.agg (entV ee).toArray, .bool ok] ∧ ok = decide (0 < room) ∧ (ok = true → ee = e) ∧ (findK k (getL now' k (putL room now k e L))).isSome = ok := by
  rcases Nat.eq_zero_or_pos room with h | h
  · subst h
    rw [put_zero hL]
    exact ⟨false, (0, 0, 0), by simp [getV, findK_nil], by simp, by simp, by simp [getL, findK_nil]⟩
  · have hf := put_find h hR.keys
    exact ⟨true, e, by simp [getV, hf, mkIt_ent], by simp [h], by simp, by rw [getL_some hf, find_putBack (k := k) rfl]; rfl⟩
theorem StlbRoom_walk (W0 : World) (w : Nat) (hw : w < 256) (a : Option Addr) (c : Nat) (ks : List Key) (hks : SlB W0 a 2 keyV ks) (a' : Option Addr) (c' : Nat) (es : List Ent3) (hes : SlB W0 a' 3 entV es) :
    Spec Try.prog W0 8 [.int .u8 w, .slice a ks.length c, .slice a' es.length c'] [] (fun v B => v = .bool true ∧ B = []) := by
  refine spec_body Try.func8 Try.ntmps8 rfl rfl ?_
  refine x_seq ?_
  refine x_region ?_
  refine s_val rfl (v_assign rfl) ?_
  refine x_nil ?_
  refine n_then ?_
  refine x_seq ?_
  refine x_region ?_
  refine s_val rfl (v_move rfl) ?_
  refine s_val rfl (v_rem rfl rfl (by decide) (tmodN w 5)) ?_
  refine s_val rfl (v_conv Try.underlying5 Try.underlying3 rfl (by first | exact w64 (by omega) | rfl)) ?_
  refine s_val rfl (v_assign rfl) ?_
  refine x_nil ?_
  refine n_then ?_
  refine x_seq ?_
  obtain ⟨n, hn, hnw⟩ : ∃ n, n = w % 5 ∧ n ≤ 4 := ⟨_, rfl, by omega⟩
  rw [← hn]
  refine x_region ?_
  refine s_val rfl (v_move rfl) ?_
  refine s_do rfl (d_call Try.call26 rfl (New_spec W0 _ n hnw)) ?_
  rintro _ _ ⟨b, rfl, rfl⟩
  refine s_val rfl (v_move rfl) ?_
  refine s_val rfl (v_extract rfl rfl) ?_
  refine s_val rfl (v_extract rfl rfl) ?_
  refine s_val rfl (v_assign rfl) ?_
  refine s_val rfl (v_assign rfl) ?_
  refine x_nil ?_
  refine n_then ?_
  refine x_seq ?_
  refine x_seq ?_
  refine x_region ?_
  refine s_val rfl (v_move rfl) ?_
  refine s_val rfl (v_eql_ptr_nil Try.underlying45 rfl rfl) ?_
  refine s_val rfl (v_move rfl) ?_
  refine s_or rfl rfl rfl ?_ ?_
  · intro g3_3
    exact absurd g3_3 (by simp)
  · intro g3_3
    refine s_val rfl (v_move rfl) ?_
    refine s_yes rfl rfl ?_
    refine s_val rfl (v_neq rfl rfl) ?_
    refine s_val rfl (v_pick_f rfl rfl) ?_
    refine x_nil ?_
    refine n_then ?_
    refine x_if rfl ?_ ?_
    · intro c3
      exact absurd c3 (by simp)
    · intro c3
      refine x_skip ?_
      refine n_then ?_
      refine x_seq ?_
      refine x_seq ?_
      refine x_region ?_
      refine s_val rfl (v_assign rfl) ?_
      refine x_nil ?_
      refine n_then ?_
      refine x_block ?_
      refine x_loop (fun X : List It × Nat × List It × Nat => Rep X.1 X.2.1 X.2.2.1 ∧ X.2.2.1.length ≤ n ∧ X.2.2.2 ≤ 60 ∧ X.2.1 ≤ 3 * X.2.2.2) (fun X => [(1, .slice a ks.length c), (2, .slice a' es.length c'), (7, .int .i64 n), (8, .pointer (some ⟨b, 0, none⟩)), (10, .int .i64 X.2.2.2)]) (fun X => [rowH b (X.1, tlV n X.2.1)]) (fun X => 60 - X.2.2.2) ([], 0, [], 0) ?_ ?_ ?_ ?_
      · exact ⟨Rep.nil, Nat.zero_le _, Nat.zero_le _, Nat.zero_le _⟩
      · repeat (first | exact sub_nil | refine sub_cons rfl ?_)
      · exact inferInstance
      · intro ⟨its, now, L, i⟩ ⟨hR, hL, hi60, hnow⟩
        simp only at hR hL hi60 hnow ⊢
        refine x_seq ?_
        refine x_seq ?_
        refine x_region ?_
        refine s_val rfl (v_move rfl) ?_
        refine s_val rfl (v_move rfl) ?_
        refine s_val rfl (v_len_slice Try.underlying44 rfl) ?_
        refine s_val rfl (v_lss rfl rfl) ?_
        refine s_val rfl (v_move rfl) ?_
        refine s_and rfl rfl rfl ?_ ?_
        · intro g6_5
          refine s_val rfl (v_move rfl) ?_
          refine s_yes rfl rfl ?_
          refine s_val rfl (v_move rfl) ?_
          refine s_yes rfl rfl ?_
          refine s_val rfl (v_len_slice Try.underlying53 rfl) ?_
          refine s_yes rfl rfl ?_
          refine s_val rfl (v_lss rfl rfl) ?_
          refine s_val rfl (v_pick_t rfl rfl) ?_
          refine s_val rfl (v_move rfl) ?_
          refine s_and rfl rfl rfl ?_ ?_
          · intro g6_11
            refine s_val rfl (v_move rfl) ?_
            refine s_yes rfl rfl ?_
            refine s_val rfl (v_lss rfl rfl) ?_
            refine s_val rfl (v_pick_t rfl rfl) ?_
            refine x_nil ?_
            refine n_then ?_
            refine x_if rfl ?_ ?_
            · intro c6
              refine x_skip ?_
              refine n_then ?_
              refine x_cut (fun Z : List It × Nat => (∃ L', Rep Z.1 Z.2 L' ∧ L'.length ≤ n) ∧ Z.2 ≤ 3 * (i + 1)) (fun Z => [(1, .slice a ks.length c), (2, .slice a' es.length c'), (7, .int .i64 n), (8, .pointer (some ⟨b, 0, none⟩)), (10, .int .i64 i)]) (fun Z => [rowH b (Z.1, tlV n Z.2)]) ?_ ?_
              · skip
                refine x_block ?_
                refine x_seq ?_
                obtain ⟨k, hk⟩ : ∃ k, ks[i]? = some k := ⟨ks[i], by simp⟩
                obtain ⟨bk, ok, rfl, hck⟩ := hks i k hk
                obtain ⟨e, he⟩ : ∃ e, es[i]? = some e := ⟨es[i], by simp⟩
                obtain ⟨be, oe, rfl, hce⟩ := hes i e he
                refine x_draw [(bk, ok + i * 2, keyV k), (be, oe + i * 3, entV e)] 10 mixed rfl (sc_cons (hck _) (sc_cons (hce _) sc_end)) (fun hS => ?_)
                refine d_take 0 rfl rfl (by kernel_rfl) (by kernel_rfl) (by kernel_rfl) rfl hS (v_move rfl) ?_
                refine d_take 1 rfl rfl (by kernel_rfl) (by kernel_rfl) (by kernel_rfl) rfl hS (v_move rfl) ?_
                refine d_take 2 rfl rfl (by kernel_rfl) (by kernel_rfl) (by kernel_rfl) rfl hS (v_move rfl) ?_
                refine d_take 3 rfl rfl (by kernel_rfl) (by kernel_rfl) (by kernel_rfl) rfl hS (v_idx Try.underlying44 Try.sizeOf41 rfl rfl rfl (by omega) (by first | exact Nat.zero_add _ | rfl)) ?_
                refine d_take 4 rfl rfl (by kernel_rfl) (by kernel_rfl) (by kernel_rfl) rfl hS (v_loadAgg Try.isAgg41 Try.sizeOf41 rfl (by first | exact cells_sc (k := 0) rfl | exact cells_sc (k := 1) rfl) rfl) ?_
                refine d_take 5 rfl rfl (by kernel_rfl) (by kernel_rfl) (by kernel_rfl) rfl hS (v_move rfl) ?_
                refine d_take 6 rfl rfl (by kernel_rfl) (by kernel_rfl) (by kernel_rfl) rfl hS (v_move rfl) ?_
                refine d_take 7 rfl rfl (by kernel_rfl) (by kernel_rfl) (by kernel_rfl) rfl hS (v_idx Try.underlying53 Try.sizeOf43 rfl rfl rfl (by omega) (by first | exact Nat.zero_add _ | rfl)) ?_
                refine d_take 8 rfl rfl (by kernel_rfl) (by kernel_rfl) (by kernel_rfl) rfl hS (v_loadAgg Try.isAgg43 Try.sizeOf43 rfl (by first | exact cells_sc (k := 0) rfl | exact cells_sc (k := 1) rfl) rfl) ?_
                refine d_one 9 (by kernel_rfl) rfl rfl (d_call1 Try.call27 rfl (Put_spec18 W0 _ b its n now L k e hR hL hnw (by omega))) rfl ?_; clear hS
                rintro _ _ ⟨rfl, its1, rfl, hR1⟩
                have hL1 := putL_len (now := now) (k := k) (e := e) hL
                obtain ⟨is, ee, hv, hok, hee, hfd⟩ := room_seen (now' := now + 1) hL hR1
                refine ⟨(sc_cons (hck _) (sc_cons (hce _) sc_end)), fun hS => ?_⟩
                refine d_done (by kernel_rfl) ?_; clear hS
                refine n_then ?_
                refine x_seq ?_
                refine x_region ?_
                refine s_val rfl (v_move rfl) ?_
                refine s_val rfl (v_move rfl) ?_
                refine s_val rfl (v_move rfl) ?_
                refine s_val rfl (v_idx Try.underlying44 Try.sizeOf41 rfl rfl rfl (by omega) (by first | exact Nat.zero_add _ | rfl)) ?_
                refine s_val rfl (v_loadAgg Try.isAgg41 Try.sizeOf41 rfl (hck _) rfl) ?_
                refine s_do rfl (d_call1 Try.call28 rfl (Get_spec18 W0 _ b its1 n (now + 1) _ k hR1 hL1 hnw (by omega))) ?_
                rintro _ _ ⟨rfl, its2, now2, hn2, rfl, hR2⟩
                rw [hv]
                have hL2 := Nat.le_trans (getL_len (now := now + 1) (k := k)) hL1
                have hlen2 := hR2.length
                refine s_val rfl (v_move rfl) ?_
                refine s_val rfl (v_extract rfl rfl) ?_
                refine s_val rfl (v_extract rfl rfl) ?_
                refine s_do rfl (d_allocA Try.zeroValue43) ?_
                rintro _ _ ⟨b1, rfl, rfl⟩
                refine s_do0 (d_storeAll Try.sizeOf43 rfl rfl rfl rfl rfl) ?_
                rintro _ _ rfl
                refine s_val rfl (v_assign rfl) ?_
                refine x_nil ?_
                refine n_then ?_
                refine x_seq ?_
                refine x_seq ?_
                refine x_draw [(b1, 0, entV ee), (be, oe + i * 3, entV e)] 21 mixed rfl (sc_own (sc_cons (hce _) sc_end)) (fun hS => ?_)
                refine d_take 0 rfl rfl (by kernel_rfl) (by kernel_rfl) (by kernel_rfl) rfl hS (v_move rfl) ?_
                refine d_take 2 rfl rfl (by kernel_rfl) (by kernel_rfl) (by kernel_rfl) rfl hS (v_move rfl) ?_
                refine d_one 1 (by kernel_rfl) rfl rfl (d_call1 Try.call29 rfl (Len_spec W0 _ b its2 _ _)) rfl ?_; clear hS
                rintro _ _ ⟨rfl, rfl⟩
                refine ⟨(sc_own (sc_cons (hce _) sc_end)), fun hS => ?_⟩
                refine d_take 3 rfl rfl (by kernel_rfl) (by kernel_rfl) (by kernel_rfl) rfl hS (v_gtr rfl rfl) ?_
                refine d_take 4 rfl rfl (by kernel_rfl) (by kernel_rfl) (by kernel_rfl) rfl hS (v_move rfl) ?_
                refine x_split (t := 68) rfl ?_ ?_
                · intro g10_5
                  omega
                · intro g10_5
                  refine d_take 5 rfl rfl (by kernel_rfl) (by kernel_rfl) (by kernel_rfl) rfl hS (v_move rfl) ?_
                  refine d_take 6 rfl rfl (by kernel_rfl) (by kernel_rfl) (by kernel_rfl) rfl hS (v_move rfl) ?_
                  refine d_take 7 rfl rfl (by kernel_rfl) (by kernel_rfl) (by kernel_rfl) rfl hS (v_gtr rfl rfl) ?_
                  refine d_take 8 rfl rfl (by kernel_rfl) (by kernel_rfl) (by kernel_rfl) rfl hS (v_neq_bool Try.underlying4 rfl rfl) ?_
                  refine d_take 9 rfl rfl (by kernel_rfl) (by kernel_rfl) (by kernel_rfl) rfl hS (v_pick_f rfl rfl) ?_
                  refine d_take 10 rfl rfl (by kernel_rfl) (by kernel_rfl) (by kernel_rfl) rfl hS (v_move rfl) ?_
                  refine x_split (t := 74) rfl ?_ ?_
                  · intro g10_11
                    exact absurd g10_11 (by simp [hok])
                  · intro g10_11
                    refine d_take 11 rfl rfl (by kernel_rfl) (by kernel_rfl) (by kernel_rfl) rfl hS (v_move rfl) ?_
                    refine d_take 12 rfl rfl (by kernel_rfl) (by kernel_rfl) (by kernel_rfl) rfl hS (v_move rfl) ?_
                    refine x_split (t := 76) rfl ?_ ?_
                    · intro g10_13
                      obtain rfl := hee g10_13
                      refine d_take 13 rfl rfl (by kernel_rfl) (by kernel_rfl) (by kernel_rfl) rfl hS (v_loadAgg Try.isAgg43 Try.sizeOf43 rfl (by first | exact cells_sc (k := 0) rfl | exact cells_sc (k := 1) rfl) rfl) ?_
                      refine d_take 14 rfl rfl (by kernel_rfl) (by kernel_rfl) (by kernel_rfl) rfl hS (v_move rfl) ?_
                      refine d_take 15 rfl rfl (by kernel_rfl) (by kernel_rfl) (by kernel_rfl) rfl hS (v_move rfl) ?_
                      refine d_take 16 rfl rfl (by kernel_rfl) (by kernel_rfl) (by kernel_rfl) rfl hS (v_idx Try.underlying53 Try.sizeOf43 rfl rfl rfl (by omega) (by first | exact Nat.zero_add _ | rfl)) ?_
                      refine d_take 17 rfl rfl (by kernel_rfl) (by kernel_rfl) (by kernel_rfl) rfl hS (v_loadAgg Try.isAgg43 Try.sizeOf43 rfl (by first | exact cells_sc (k := 0) rfl | exact cells_sc (k := 1) rfl) rfl) ?_
                      refine d_take 18 rfl rfl (by kernel_rfl) (by kernel_rfl) (by kernel_rfl) rfl hS (v_neq_agg Try.eqGuardType43 rfl rfl (q_struct Try.underlying43 Try.stoodInHeld43 (qf_scal rfl Try.isAgg3 rfl rfl (q_int Try.underlying3) (qf_scal rfl Try.isAgg3 rfl rfl (q_int Try.underlying3) (qf_scal rfl Try.isAgg3 rfl rfl (q_int Try.underlying3) qf_nil))))) ?_
                      refine d_take 19 rfl rfl (by kernel_rfl) (by kernel_rfl) (by kernel_rfl) rfl hS (v_pick_t rfl rfl) ?_
                      refine d_take 20 rfl rfl (by kernel_rfl) (by kernel_rfl) (by kernel_rfl) rfl hS (v_pick_f rfl rfl) ?_
                      refine d_done (by kernel_rfl) ?_; clear hS
                      refine n_then ?_
                      refine x_if rfl ?_ ?_
                      · intro c10
                        exact absurd c10 (by simp)
                      · intro c10
                        refine x_skip ?_
                        refine n_then ?_
                        refine x_seq ?_
                        refine x_region ?_
                        refine s_val rfl (v_move rfl) ?_
                        refine s_val rfl (v_rem rfl rfl (by decide) rfl) ?_
                        refine s_val rfl (v_eql rfl rfl) ?_
                        refine x_nil ?_
                        refine n_then ?_
                        refine x_if rfl ?_ ?_
                        · intro c12
                          refine x_seq ?_
                          refine x_seq ?_
                          refine x_region ?_
                          refine s_val rfl (v_move rfl) ?_
                          refine s_val rfl (v_move rfl) ?_
                          refine s_val rfl (v_move rfl) ?_
                          refine s_val rfl (v_idx Try.underlying44 Try.sizeOf41 rfl rfl rfl (by omega) (by first | exact Nat.zero_add _ | rfl)) ?_
                          refine s_val rfl (v_loadAgg Try.isAgg41 Try.sizeOf41 rfl (hck _) rfl) ?_
                          refine s_do rfl (d_call1 Try.call31 rfl (Drop_spec18 W0 _ b its2 _ now2 _ k hR2 (by omega) _)) ?_
                          rintro _ _ ⟨rfl, its3, rfl, hR3⟩
                          rw [hfd]
                          have hL3 := Nat.le_trans (without_le k _) hL2
                          refine s_val rfl (v_move rfl) ?_
                          refine s_val rfl (v_neq_bool Try.underlying4 rfl rfl) ?_
                          refine x_nil ?_
                          refine n_then ?_
                          refine x_if rfl ?_ ?_
                          · intro c13
                            exact absurd c13 (by simp)
                          · intro c13
                            refine x_skip ?_
                            refine n_then ?_
                            refine x_seq ?_
                            refine x_region ?_
                            refine s_val rfl (v_move rfl) ?_
                            refine s_val rfl (v_move rfl) ?_
                            refine s_val rfl (v_move rfl) ?_
                            refine s_val rfl (v_idx Try.underlying44 Try.sizeOf41 rfl rfl rfl (by omega) (by first | exact Nat.zero_add _ | rfl)) ?_
                            refine s_val rfl (v_loadAgg Try.isAgg41 Try.sizeOf41 rfl (hck _) rfl) ?_
                            refine s_do rfl (d_call1 Try.call28 rfl (Get_spec18 W0 _ b its3 n now2 _ k hR3 hL3 hnw (by omega))) ?_
                            rintro _ _ ⟨rfl, its4, now4, hn4, rfl, hR4⟩
                            rw [show getV k (without k _) = .tuple #[.agg (entV (0, 0, 0)).toArray, .bool false] by simp only [getV, find_without]]
                            have hL4 := Nat.le_trans (getL_len (now := now2) (k := k)) hL3
                            refine s_val rfl (v_move rfl) ?_
                            refine s_val rfl (v_extract rfl rfl) ?_
                            refine s_val rfl (v_extract rfl rfl) ?_
                            refine s_do rfl (d_allocA Try.zeroValue43) ?_
                            rintro _ _ ⟨b2, rfl, rfl⟩
                            refine s_do0 (d_storeAll Try.sizeOf43 rfl rfl rfl rfl rfl) ?_
                            rintro _ _ rfl
                            refine s_val rfl (v_assign rfl) ?_
                            refine x_nil ?_
                            refine n_then ?_
                            refine x_seq ?_
                            refine x_region ?_
                            refine s_val rfl (v_move rfl) ?_
                            refine x_nil ?_
                            refine n_then ?_
                            refine x_if rfl ?_ ?_
                            · intro c16
                              exact absurd c16 (by simp)
                            · intro c16
                              refine x_skip ?_
                              refine n_block ?_
                              refine n_then ?_
                              refine mid_intro (its4, now4) ?_ ?_ ?_
                              · exact ⟨⟨_, hR4, hL4⟩, by show now4 ≤ 3 * (i + 1); omega⟩
                              · repeat (first | exact sub_nil | refine sub_cons rfl ?_)
                              · exact inferInstance
                        · intro c12
                          refine x_skip ?_
                          refine n_block ?_
                          refine n_then ?_
                          refine mid_intro (its2, now2) ?_ ?_ ?_
                          · exact ⟨⟨_, hR2, hL2⟩, by show now2 ≤ 3 * (i + 1); omega⟩
                          · repeat (first | exact sub_nil | refine sub_cons rfl ?_)
                          · exact inferInstance
                    · intro g10_13
                      refine d_skip 13 rfl rfl (by kernel_rfl) (by kernel_rfl) (by kernel_rfl) rfl hS ?_
                      refine d_skip 14 rfl rfl (by kernel_rfl) (by kernel_rfl) (by kernel_rfl) rfl hS ?_
                      refine d_skip 15 rfl rfl (by kernel_rfl) (by kernel_rfl) (by kernel_rfl) rfl hS ?_
                      refine d_skip 16 rfl rfl (by kernel_rfl) (by kernel_rfl) (by kernel_rfl) rfl hS ?_
                      refine d_skip 17 rfl rfl (by kernel_rfl) (by kernel_rfl) (by kernel_rfl) rfl hS ?_
                      refine d_skip 18 rfl rfl (by kernel_rfl) (by kernel_rfl) (by kernel_rfl) rfl hS ?_
                      refine d_take 19 rfl rfl (by kernel_rfl) (by kernel_rfl) (by kernel_rfl) rfl hS (v_pick_f rfl rfl) ?_
                      refine d_take 20 rfl rfl (by kernel_rfl) (by kernel_rfl) (by kernel_rfl) rfl hS (v_pick_f rfl rfl) ?_
                      refine d_done (by kernel_rfl) ?_; clear hS
                      refine n_then ?_
                      refine x_iff rfl ?_
                      refine x_skip ?_
                      refine n_then ?_
                      refine x_seq ?_
                      refine x_region ?_
                      refine s_val rfl (v_move rfl) ?_
                      refine s_val rfl (v_rem rfl rfl (by decide) rfl) ?_
                      refine s_val rfl (v_eql rfl rfl) ?_
                      refine x_nil ?_
                      refine n_then ?_
                      refine x_if rfl ?_ ?_
                      · intro c12
                        refine x_seq ?_
                        refine x_seq ?_
                        refine x_region ?_
                        refine s_val rfl (v_move rfl) ?_
                        refine s_val rfl (v_move rfl) ?_
                        refine s_val rfl (v_move rfl) ?_
                        refine s_val rfl (v_idx Try.underlying44 Try.sizeOf41 rfl rfl rfl (by omega) (by first | exact Nat.zero_add _ | rfl)) ?_
                        refine s_val rfl (v_loadAgg Try.isAgg41 Try.sizeOf41 rfl (hck _) rfl) ?_
                        refine s_do rfl (d_call1 Try.call31 rfl (Drop_spec18 W0 _ b its2 _ now2 _ k hR2 (by omega) _)) ?_
                        rintro _ _ ⟨rfl, its3, rfl, hR3⟩
                        rw [hfd]
                        have hL3 := Nat.le_trans (without_le k _) hL2
                        refine s_val rfl (v_move rfl) ?_
                        refine s_val rfl (v_neq_bool Try.underlying4 rfl rfl) ?_
                        refine x_nil ?_
                        refine n_then ?_
                        refine x_if rfl ?_ ?_
                        · intro c13
                          exact absurd c13 (by simp)
                        · intro c13
                          refine x_skip ?_
                          refine n_then ?_
                          refine x_seq ?_
                          refine x_region ?_
                          refine s_val rfl (v_move rfl) ?_
                          refine s_val rfl (v_move rfl) ?_
                          refine s_val rfl (v_move rfl) ?_
                          refine s_val rfl (v_idx Try.underlying44 Try.sizeOf41 rfl rfl rfl (by omega) (by first | exact Nat.zero_add _ | rfl)) ?_
                          refine s_val rfl (v_loadAgg Try.isAgg41 Try.sizeOf41 rfl (hck _) rfl) ?_
                          refine s_do rfl (d_call1 Try.call28 rfl (Get_spec18 W0 _ b its3 n now2 _ k hR3 hL3 hnw (by omega))) ?_
                          rintro _ _ ⟨rfl, its4, now4, hn4, rfl, hR4⟩
                          rw [show getV k (without k _) = .tuple #[.agg (entV (0, 0, 0)).toArray, .bool false] by simp only [getV, find_without]]
                          have hL4 := Nat.le_trans (getL_len (now := now2) (k := k)) hL3
                          refine s_val rfl (v_move rfl) ?_
                          refine s_val rfl (v_extract rfl rfl) ?_
                          refine s_val rfl (v_extract rfl rfl) ?_
                          refine s_do rfl (d_allocA Try.zeroValue43) ?_
                          rintro _ _ ⟨b3, rfl, rfl⟩
                          refine s_do0 (d_storeAll Try.sizeOf43 rfl rfl rfl rfl rfl) ?_
                          rintro _ _ rfl
                          refine s_val rfl (v_assign rfl) ?_
                          refine x_nil ?_
                          refine n_then ?_
                          refine x_seq ?_
                          refine x_region ?_
                          refine s_val rfl (v_move rfl) ?_
                          refine x_nil ?_
                          refine n_then ?_
                          refine x_if rfl ?_ ?_
                          · intro c16
                            exact absurd c16 (by simp)
                          · intro c16
                            refine x_skip ?_
                            refine n_block ?_
                            refine n_then ?_
                            refine mid_intro (its4, now4) ?_ ?_ ?_
                            · exact ⟨⟨_, hR4, hL4⟩, by show now4 ≤ 3 * (i + 1); omega⟩
                            · repeat (first | exact sub_nil | refine sub_cons rfl ?_)
                            · exact inferInstance
                      · intro c12
                        refine x_skip ?_
                        refine n_block ?_
                        refine n_then ?_
                        refine mid_intro (its2, now2) ?_ ?_ ?_
                        · exact ⟨⟨_, hR2, hL2⟩, by show now2 ≤ 3 * (i + 1); omega⟩
                        · repeat (first | exact sub_nil | refine sub_cons rfl ?_)
                        · exact inferInstance
              · intro ⟨its5, now5⟩ ⟨⟨L5, hR5, hL5⟩, hnow5⟩
                refine x_region ?_
                refine s_val rfl (v_move rfl) ?_
                refine s_val rfl (v_add rfl rfl (by first | exact w64 (by omega) | rfl)) ?_
                refine s_val rfl (v_assign rfl) ?_
                refine x_nil ?_
                refine n_then ?_
                refine inv_intro (its5, now5, L5, i + 1) ?_ ?_ ?_ ?_
                · exact ⟨hR5, hL5, by show i + 1 ≤ 60; omega, hnow5⟩
                · show 60 - (i + 1) < 60 - i; omega
                · repeat (first | exact sub_nil | refine sub_cons rfl ?_)
                · exact inferInstance
            · intro c6
              refine x_exit ?_
              refine e_then ?_
              refine e_then ?_
              refine e_block ?_
              refine n_then ?_
              refine x_seq ?_
              refine x_region ?_
              refine s_do rfl (d_call Try.call30 rfl (awake18_spec W0 _)) ?_
              rintro _ _ ⟨rfl, rfl⟩
              refine s_val rfl (v_assign rfl) ?_
              refine x_nil ?_
              refine n_then ?_
              refine x_ret ?_
              refine x_done (.inl rfl) (.cons (r_tmp rfl) .nil) ?_
              exact ⟨_, ⟨rfl, rfl⟩, inferInstance⟩
          · intro g6_11
            refine s_no rfl rfl rfl rfl ?_
            refine s_val rfl (v_pick_f rfl rfl) ?_
            refine x_nil ?_
            refine n_then ?_
            refine x_iff rfl ?_
            refine x_exit ?_
            refine e_then ?_
            refine e_then ?_
            refine e_block ?_
            refine n_then ?_
            refine x_seq ?_
            refine x_region ?_
            refine s_do rfl (d_call Try.call30 rfl (awake18_spec W0 _)) ?_
            rintro _ _ ⟨rfl, rfl⟩
            refine s_val rfl (v_assign rfl) ?_
            refine x_nil ?_
            refine n_then ?_
            refine x_ret ?_
            refine x_done (.inl rfl) (.cons (r_tmp rfl) .nil) ?_
            exact ⟨_, ⟨rfl, rfl⟩, inferInstance⟩
        · intro g6_5
          refine s_no rfl rfl rfl rfl ?_
          refine s_no rfl rfl rfl rfl ?_
          refine s_no rfl rfl rfl rfl ?_
          refine s_val rfl (v_pick_f rfl rfl) ?_
          refine s_val rfl (v_move rfl) ?_
          refine s_no rfl rfl rfl rfl ?_
          refine s_no rfl rfl rfl rfl ?_
          refine s_val rfl (v_pick_f rfl rfl) ?_
          refine x_nil ?_
          refine n_then ?_
          refine x_iff rfl ?_
          refine x_exit ?_
          refine e_then ?_
          refine e_then ?_
          refine e_block ?_
          refine n_then ?_
          refine x_seq ?_
          refine x_region ?_
          refine s_do rfl (d_call Try.call30 rfl (awake18_spec W0 _)) ?_
          rintro _ _ ⟨rfl, rfl⟩
          refine s_val rfl (v_assign rfl) ?_
          refine x_nil ?_
          refine n_then ?_
          refine x_ret ?_
          refine x_done (.inl rfl) (.cons (r_tmp rfl) .nil) ?_
          exact ⟨_, ⟨rfl, rfl⟩, inferInstance⟩
end Go.Proofs.Ytpmacnfjafpdcaa
