/-
  Layer 14 (pte): the walks of its laws: each comes to true.
-/
import Derived.Test.YtpmacnfjafpdcaaPte
namespace Go.Proofs.Ytpmacnfjafpdcaa
open Go.RowKit
set_option linter.unusedSimpArgs false
set_option linter.unusedVariables false
set_option maxRecDepth 20000

theorem awake14_spec (W0 : World) (R : List HP) : Spec Try.prog W0 17 [] R (fun v B => v = .bool true ∧ B = R) := by
  refine spec_body Try.func17 Try.ntmps17 rfl rfl ?_
  refine x_seq ?_
  refine x_region ?_
  refine s_val rfl (v_assign rfl) ?_
  refine x_nil ?_
  refine n_then ?_
  refine x_seq ?_
  refine x_region ?_
  refine s_val rfl (v_build Try.underlying23 Try.zeroValue23 (sized_cons Try.sizeOf4 (sized_cons Try.sizeOf3 (sized_cons Try.sizeOf3 sized_nil))) (fil_scal rfl Try.sizeOf4 rfl rfl (Nat.le_of_ble_eq_true rfl) SetL.eq (fil_scal rfl Try.sizeOf3 rfl rfl (Nat.le_of_ble_eq_true rfl) SetL.eq (fil_scal rfl Try.sizeOf3 rfl rfl (Nat.le_of_ble_eq_true rfl) SetL.eq fil_nil)))) ?_
  refine s_do rfl (d_call Try.call15 rfl (Put_spec W0 _ true 1 3)) ?_
  rintro _ _ ⟨rfl, rfl⟩
  refine s_val rfl (v_move rfl) ?_
  refine s_val rfl (v_extract rfl rfl) ?_
  refine s_val rfl (v_extract rfl rfl) ?_
  refine s_val rfl (v_assign rfl) ?_
  refine s_val rfl (v_assign rfl) ?_
  refine x_nil ?_
  refine n_then ?_
  refine x_seq ?_
  refine x_region ?_
  refine s_do rfl (d_call Try.call16 rfl (Get_spec W0 _ 0 (by omega))) ?_
  rintro _ _ ⟨rfl, rfl⟩
  refine s_val rfl (v_move rfl) ?_
  refine s_val rfl (v_extract rfl rfl) ?_
  refine s_val rfl (v_extract rfl rfl) ?_
  refine s_do rfl (d_allocA Try.zeroValue23) ?_
  rintro _ _ ⟨b1, rfl, rfl⟩
  refine s_do0 (d_storeAll Try.sizeOf23 rfl rfl rfl rfl rfl) ?_
  rintro _ _ rfl
  refine s_val rfl (v_assign rfl) ?_
  refine x_nil ?_
  refine n_then ?_
  refine x_seq ?_
  refine x_region ?_
  refine s_val rfl (v_move rfl) ?_
  refine s_val rfl (v_eql rfl rfl) ?_
  refine s_val rfl (v_move rfl) ?_
  refine s_and rfl rfl rfl ?_ ?_
  · intro g3_3
    refine s_val rfl (v_move rfl) ?_
    refine s_yes rfl rfl ?_
    refine s_val rfl (v_eql rfl rfl) ?_
    refine s_val rfl (v_pick_t rfl rfl) ?_
    refine s_val rfl (v_move rfl) ?_
    refine s_and rfl rfl rfl ?_ ?_
    · intro g3_7
      refine s_val rfl (v_move rfl) ?_
      refine s_yes rfl rfl ?_
      refine s_val rfl (v_eql rfl rfl) ?_
      refine s_val rfl (v_pick_t rfl rfl) ?_
      refine s_val rfl (v_assign rfl) ?_
      refine x_nil ?_
      refine n_then ?_
      refine x_ret ?_
      refine x_done (.inl rfl) (.cons (r_tmp rfl) .nil) ?_
      refine ⟨_, ⟨?_, rfl⟩, inferInstance⟩
      rfl
    · intro g3_7
      exact absurd rfl g3_7
  · intro g3_3
    exact absurd rfl g3_3

theorem PtePlays_walk (W0 : World) (on : Bool) (r p : Int) (w : Nat) (hw : w < 4294967296) (k : Int) (user : Bool) :
    Spec Try.prog W0 6 [.agg #[.bool on, .int .i64 r, .int .i64 p], .int .u32 w, .int .i64 k, .bool user] [] (fun v B => v = .bool true ∧ B = []) := by
  refine spec_body Try.func6 Try.ntmps6 rfl rfl ?_
  refine x_seq ?_
  refine x_region ?_
  refine s_do rfl (d_boxA rfl) ?_
  rintro _ _ ⟨b1, rfl, rfl⟩
  refine s_val rfl (v_assign rfl) ?_
  refine x_nil ?_
  refine n_then ?_
  refine x_seq ?_
  refine x_region ?_
  refine s_val rfl (v_loadAll Try.isAgg23 Try.sizeOf23 rfl rfl) ?_
  refine s_do rfl (d_call Try.call15 rfl (Put_spec W0 _ on r p)) ?_
  rintro _ _ ⟨rfl, rfl⟩
  refine s_val rfl (v_move rfl) ?_
  refine s_val rfl (v_extract rfl rfl) ?_
  refine s_val rfl (v_extract rfl rfl) ?_
  refine s_val rfl (v_assign rfl) ?_
  refine s_val rfl (v_assign rfl) ?_
  refine x_nil ?_
  refine n_then ?_
  refine x_seq ?_
  refine x_region ?_
  refine s_val rfl (v_loadAll Try.isAgg23 Try.sizeOf23 rfl rfl) ?_
  refine s_do rfl (d_call Try.call21 rfl (refPut_spec W0 _ on r p)) ?_
  rintro _ _ ⟨rfl, rfl⟩
  refine s_val rfl (v_move rfl) ?_
  refine s_val rfl (v_extract rfl rfl) ?_
  refine s_val rfl (v_extract rfl rfl) ?_
  refine s_val rfl (v_assign rfl) ?_
  refine s_val rfl (v_assign rfl) ?_
  refine x_nil ?_
  refine n_then ?_
  refine x_seq ?_
  refine x_region ?_
  refine s_val rfl (v_move rfl) ?_
  refine s_do rfl (d_call Try.call16 rfl (Get_spec W0 _ w hw)) ?_
  rintro _ _ ⟨rfl, rfl⟩
  refine s_val rfl (v_move rfl) ?_
  refine s_val rfl (v_extract rfl rfl) ?_
  refine s_val rfl (v_extract rfl rfl) ?_
  refine s_do rfl (d_allocA Try.zeroValue23) ?_
  rintro _ _ ⟨b2, rfl, rfl⟩
  refine s_do0 (d_storeAll Try.sizeOf23 rfl rfl rfl rfl rfl) ?_
  rintro _ _ rfl
  refine s_val rfl (v_assign rfl) ?_
  refine x_nil ?_
  refine n_then ?_
  refine x_seq ?_
  refine x_region ?_
  refine s_val rfl (v_move rfl) ?_
  refine s_do rfl (d_call Try.call22 rfl (refGet_spec W0 _ w hw)) ?_
  rintro _ _ ⟨rfl, rfl⟩
  refine s_val rfl (v_move rfl) ?_
  refine s_val rfl (v_extract rfl rfl) ?_
  refine s_val rfl (v_extract rfl rfl) ?_
  refine s_do rfl (d_allocA Try.zeroValue23) ?_
  rintro _ _ ⟨b3, rfl, rfl⟩
  refine s_do0 (d_storeAll Try.sizeOf23 rfl rfl rfl rfl rfl) ?_
  rintro _ _ rfl
  refine s_val rfl (v_assign rfl) ?_
  refine x_nil ?_
  refine n_then ?_
  refine x_seq ?_
  refine x_seq ?_
  refine x_region ?_
  refine s_val rfl (v_move rfl) ?_
  refine s_val rfl (v_move rfl) ?_
  refine s_val rfl (v_neq rfl rfl) ?_
  refine s_val rfl (v_move rfl) ?_
  refine s_or rfl rfl rfl ?_ ?_
  · intro g5_4
    simp at g5_4
  · intro g5_4
    refine s_val rfl (v_move rfl) ?_
    refine s_yes rfl rfl ?_
    refine s_val rfl (v_move rfl) ?_
    refine s_yes rfl rfl ?_
    refine s_val rfl (v_neq rfl rfl) ?_
    refine s_val rfl (v_pick_f rfl rfl) ?_
    refine s_val rfl (v_move rfl) ?_
    refine s_or rfl rfl rfl ?_ ?_
    · intro g5_9
      simp at g5_9
    · intro g5_9
      refine s_val rfl (v_loadAll Try.isAgg23 Try.sizeOf23 rfl rfl) ?_
      refine s_yes rfl rfl ?_
      refine s_val rfl (v_loadAll Try.isAgg23 Try.sizeOf23 rfl rfl) ?_
      refine s_yes rfl rfl ?_
      refine s_val rfl (v_neq_agg Try.eqGuardType23 rfl rfl (q_struct Try.underlying23 Try.stoodInHeld23 (qf_scal rfl Try.isAgg4 rfl rfl (q_bool Try.underlying4) (qf_scal rfl Try.isAgg3 rfl rfl (q_int Try.underlying3) (qf_scal rfl Try.isAgg3 rfl rfl (q_int Try.underlying3) qf_nil))))) ?_
      refine s_val rfl (v_pick_f rfl rfl) ?_
      refine s_val rfl (v_move rfl) ?_
      refine s_or rfl rfl rfl ?_ ?_
      · intro g5_14
        simp at g5_14
      · intro g5_14
        refine s_val rfl (v_move rfl) ?_
        refine s_yes rfl rfl ?_
        refine s_val rfl (v_move rfl) ?_
        refine s_yes rfl rfl ?_
        refine s_val rfl (v_neq rfl rfl) ?_
        refine s_val rfl (v_pick_f rfl rfl) ?_
        refine x_nil ?_
        refine n_then ?_
        refine x_if rfl ?_ ?_
        · intro c5
          simp at c5
        · intro c5
          refine x_skip ?_
          refine n_then ?_
          refine x_seq ?_
          refine x_region ?_
          refine s_val rfl (v_move rfl) ?_
          refine s_do rfl (d_call Try.call18 rfl (Table_spec W0 _ w hw)) ?_
          rintro _ _ ⟨rfl, rfl⟩
          refine s_val rfl (v_move rfl) ?_
          refine s_val rfl (v_extract rfl rfl) ?_
          refine s_val rfl (v_extract rfl rfl) ?_
          refine s_val rfl (v_assign rfl) ?_
          refine s_val rfl (v_assign rfl) ?_
          refine x_nil ?_
          refine n_then ?_
          refine x_seq ?_
          refine x_region ?_
          refine s_val rfl (v_move rfl) ?_
          refine s_do rfl (d_call Try.call23 rfl (refTable_spec W0 _ w hw)) ?_
          rintro _ _ ⟨rfl, rfl⟩
          refine s_val rfl (v_move rfl) ?_
          refine s_val rfl (v_extract rfl rfl) ?_
          refine s_val rfl (v_extract rfl rfl) ?_
          refine s_val rfl (v_assign rfl) ?_
          refine s_val rfl (v_assign rfl) ?_
          refine x_nil ?_
          refine n_then ?_
          refine x_seq ?_
          refine x_region ?_
          refine s_val rfl (v_move rfl) ?_
          refine s_do rfl (d_call Try.call19 rfl (Leaf_spec W0 _ w hw)) ?_
          rintro _ _ ⟨rfl, rfl⟩
          refine s_val rfl (v_move rfl) ?_
          refine s_val rfl (v_extract rfl rfl) ?_
          refine s_val rfl (v_extract rfl rfl) ?_
          refine s_do rfl (d_allocA Try.zeroValue23) ?_
          rintro _ _ ⟨b4, rfl, rfl⟩
          refine s_do0 (d_storeAll Try.sizeOf23 rfl rfl rfl rfl rfl) ?_
          rintro _ _ rfl
          refine s_val rfl (v_assign rfl) ?_
          refine x_nil ?_
          refine n_then ?_
          refine x_seq ?_
          refine x_region ?_
          refine s_val rfl (v_move rfl) ?_
          refine s_do rfl (d_call Try.call24 rfl (refLeaf_spec W0 _ w hw)) ?_
          rintro _ _ ⟨rfl, rfl⟩
          refine s_val rfl (v_move rfl) ?_
          refine s_val rfl (v_extract rfl rfl) ?_
          refine s_val rfl (v_extract rfl rfl) ?_
          refine s_do rfl (d_allocA Try.zeroValue23) ?_
          rintro _ _ ⟨b5, rfl, rfl⟩
          refine s_do0 (d_storeAll Try.sizeOf23 rfl rfl rfl rfl rfl) ?_
          rintro _ _ rfl
          refine s_val rfl (v_assign rfl) ?_
          refine x_nil ?_
          refine n_then ?_
          refine x_seq ?_
          refine x_draw [(b1, 0, _), (b4, 0, _), (b5, 0, _)] 33 mixed rfl (sc_own (sc_own (sc_own sc_end))) (fun hS => ?_)
          refine d_take 0 rfl rfl (by kernel_rfl) (by kernel_rfl) (by kernel_rfl) rfl hS (v_move rfl) ?_
          refine d_take 1 rfl rfl (by kernel_rfl) (by kernel_rfl) (by kernel_rfl) rfl hS (v_move rfl) ?_
          refine d_take 2 rfl rfl (by kernel_rfl) (by kernel_rfl) (by kernel_rfl) rfl hS (v_eql rfl rfl) ?_
          refine d_take 3 rfl rfl (by kernel_rfl) (by kernel_rfl) (by kernel_rfl) rfl hS (v_move rfl) ?_
          refine x_split (t := 86) rfl ?_ ?_
          · intro g11_4
            refine d_take 4 rfl rfl (by kernel_rfl) (by kernel_rfl) (by kernel_rfl) rfl hS (v_move rfl) ?_
            refine d_take 5 rfl rfl (by kernel_rfl) (by kernel_rfl) (by kernel_rfl) rfl hS (v_move rfl) ?_
            refine d_take 6 rfl rfl (by kernel_rfl) (by kernel_rfl) (by kernel_rfl) rfl hS (v_eql rfl rfl) ?_
            refine d_take 7 rfl rfl (by kernel_rfl) (by kernel_rfl) (by kernel_rfl) rfl hS (v_pick_t rfl rfl) ?_
            refine d_take 8 rfl rfl (by kernel_rfl) (by kernel_rfl) (by kernel_rfl) rfl hS (v_move rfl) ?_
            refine x_split (t := 91) rfl ?_ ?_
            · intro g11_9
              refine d_take 9 rfl rfl (by kernel_rfl) (by kernel_rfl) (by kernel_rfl) rfl hS (v_loadAgg Try.isAgg23 Try.sizeOf23 rfl (by first | exact cells_sc (k := 0) rfl | exact cells_sc (k := 1) rfl | exact cells_sc (k := 2) rfl) rfl) ?_
              refine d_take 10 rfl rfl (by kernel_rfl) (by kernel_rfl) (by kernel_rfl) rfl hS (v_loadAgg Try.isAgg23 Try.sizeOf23 rfl (by first | exact cells_sc (k := 0) rfl | exact cells_sc (k := 1) rfl | exact cells_sc (k := 2) rfl) rfl) ?_
              refine d_take 11 rfl rfl (by kernel_rfl) (by kernel_rfl) (by kernel_rfl) rfl hS (v_eql_agg Try.eqGuardType23 rfl rfl (q_struct Try.underlying23 Try.stoodInHeld23 (qf_scal rfl Try.isAgg4 rfl rfl (q_bool Try.underlying4) (qf_scal rfl Try.isAgg3 rfl rfl (q_int Try.underlying3) (qf_scal rfl Try.isAgg3 rfl rfl (q_int Try.underlying3) qf_nil))))) ?_
              refine d_take 12 rfl rfl (by kernel_rfl) (by kernel_rfl) (by kernel_rfl) rfl hS (v_pick_t rfl rfl) ?_
              refine d_take 13 rfl rfl (by kernel_rfl) (by kernel_rfl) (by kernel_rfl) rfl hS (v_move rfl) ?_
              refine x_split (t := 96) rfl ?_ ?_
              · intro g11_14
                refine d_take 14 rfl rfl (by kernel_rfl) (by kernel_rfl) (by kernel_rfl) rfl hS (v_move rfl) ?_
                refine d_take 15 rfl rfl (by kernel_rfl) (by kernel_rfl) (by kernel_rfl) rfl hS (v_move rfl) ?_
                refine d_take 16 rfl rfl (by kernel_rfl) (by kernel_rfl) (by kernel_rfl) rfl hS (v_eql rfl rfl) ?_
                refine d_take 17 rfl rfl (by kernel_rfl) (by kernel_rfl) (by kernel_rfl) rfl hS (v_pick_t rfl rfl) ?_
                refine d_take 18 rfl rfl (by kernel_rfl) (by kernel_rfl) (by kernel_rfl) rfl hS (v_move rfl) ?_
                refine x_split (t := 101) rfl ?_ ?_
                · intro g11_19
                  refine d_take 19 rfl rfl (by kernel_rfl) (by kernel_rfl) (by kernel_rfl) rfl hS (v_loadAgg Try.isAgg23 Try.sizeOf23 rfl (by first | exact cells_sc (k := 0) rfl | exact cells_sc (k := 1) rfl | exact cells_sc (k := 2) rfl) rfl) ?_
                  refine d_take 20 rfl rfl (by kernel_rfl) (by kernel_rfl) (by kernel_rfl) rfl hS (v_move rfl) ?_
                  refine d_take 21 rfl rfl (by kernel_rfl) (by kernel_rfl) (by kernel_rfl) rfl hS (v_move rfl) ?_
                  refine d_take 23 rfl rfl (by kernel_rfl) (by kernel_rfl) (by kernel_rfl) rfl hS (v_loadAgg Try.isAgg23 Try.sizeOf23 rfl (by first | exact cells_sc (k := 0) rfl | exact cells_sc (k := 1) rfl | exact cells_sc (k := 2) rfl) rfl) ?_
                  refine d_take 24 rfl rfl (by kernel_rfl) (by kernel_rfl) (by kernel_rfl) rfl hS (v_move rfl) ?_
                  refine d_take 25 rfl rfl (by kernel_rfl) (by kernel_rfl) (by kernel_rfl) rfl hS (v_move rfl) ?_
                  refine d_one 22 (by kernel_rfl) rfl rfl (d_call Try.call20 rfl (Allows_spec W0 _ on r p k user)) rfl ?_; clear hS
                  rintro _ _ ⟨rfl, rfl⟩
                  refine ⟨(sc_own (sc_own (sc_own sc_end))), fun hS => ?_⟩
                  refine d_one 26 (by kernel_rfl) rfl rfl (d_call Try.call25 rfl (refAllows_spec W0 _ on r p k user)) rfl ?_; clear hS
                  rintro _ _ ⟨rfl, rfl⟩
                  refine ⟨(sc_own (sc_own (sc_own sc_end))), fun hS => ?_⟩
                  refine d_take 27 rfl rfl (by kernel_rfl) (by kernel_rfl) (by kernel_rfl) rfl hS (v_eql_bool Try.underlying4 rfl rfl) ?_
                  refine d_take 28 rfl rfl (by kernel_rfl) (by kernel_rfl) (by kernel_rfl) rfl hS (v_pick_t rfl rfl) ?_
                  refine d_take 29 rfl rfl (by kernel_rfl) (by kernel_rfl) (by kernel_rfl) rfl hS (v_move rfl) ?_
                  refine x_split (t := 112) rfl ?_ ?_
                  · intro g11_30
                    refine d_one 30 (by kernel_rfl) rfl rfl (d_call Try.call17 rfl (awake14_spec W0 _)) rfl ?_; clear hS
                    rintro _ _ ⟨rfl, rfl⟩
                    refine ⟨(sc_own (sc_own (sc_own sc_end))), fun hS => ?_⟩
                    refine d_take 31 rfl rfl (by kernel_rfl) (by kernel_rfl) (by kernel_rfl) rfl hS (v_pick_t rfl rfl) ?_
                    refine d_take 32 rfl rfl (by kernel_rfl) (by kernel_rfl) (by kernel_rfl) rfl hS (v_assign rfl) ?_
                    refine d_done (by kernel_rfl) ?_; clear hS
                    refine n_then ?_
                    refine x_ret ?_
                    refine x_done (.inl rfl) (.cons (r_tmp rfl) .nil) ?_
                    refine ⟨_, ⟨?_, rfl⟩, inferInstance⟩
                    rfl
                  · intro g11_30
                    simp at g11_30
                · intro g11_19
                  simp at g11_19
              · intro g11_14
                simp at g11_14
            · intro g11_9
              simp at g11_9
          · intro g11_4
            simp at g11_4

theorem PteLevels_walk (W0 : World) (w : Nat) (hw : w < 4294967296) :
    Spec Try.prog W0 4 [.int .u32 w] [] (fun v B => v = .bool true ∧ B = []) := by
  have h1 : tabF w = 0 → leafF w = 0 → False := by unfold tabF leafF leafNo; split <;> split <;> simp_all
  have h2 : tabF w = 0 ∨ tabP w = 0 := by unfold tabF tabP; split <;> simp_all; omega
  have h3 : leafF w = 0 ∨ (lfOn w = false ∧ lfR w = 0 ∧ lfP w = 0) := by
    unfold leafF lfOn lfR lfP gOn gR gP; split <;> simp_all; omega
  have h4 : getF w = 0 ∨ (tabF w = getF w ∧ leafF w = getF w) := by unfold tabF leafF leafNo; split <;> simp_all
  have h5 : tabF w ≠ 0 ∨ getF w ≠ 0 ∨ (tabP w = gP w ∧ gR w = 0) := by unfold tabF tabP; split <;> simp_all; omega
  have h6 : leafF w ≠ 0 ∨ getF w ≠ 0 ∨ (lfOn w = gOn w ∧ lfR w = gR w ∧ lfP w = gP w) := by
    unfold leafF lfOn lfR lfP; split <;> simp_all
  refine spec_body Try.func4 Try.ntmps4 rfl rfl ?_
  refine x_seq ?_
  refine x_region ?_
  refine s_val rfl (v_assign rfl) ?_
  refine x_nil ?_
  refine n_then ?_
  refine x_seq ?_
  refine x_region ?_
  refine s_val rfl (v_move rfl) ?_
  refine s_do rfl (d_call Try.call18 rfl (Table_spec W0 _ w hw)) ?_
  rintro _ _ ⟨rfl, rfl⟩
  refine s_val rfl (v_move rfl) ?_
  refine s_val rfl (v_extract rfl rfl) ?_
  refine s_val rfl (v_extract rfl rfl) ?_
  refine s_val rfl (v_assign rfl) ?_
  refine s_val rfl (v_assign rfl) ?_
  refine x_nil ?_
  refine n_then ?_
  refine x_seq ?_
  refine x_region ?_
  refine s_val rfl (v_move rfl) ?_
  refine s_do rfl (d_call Try.call19 rfl (Leaf_spec W0 _ w hw)) ?_
  rintro _ _ ⟨rfl, rfl⟩
  refine s_val rfl (v_move rfl) ?_
  refine s_val rfl (v_extract rfl rfl) ?_
  refine s_val rfl (v_extract rfl rfl) ?_
  refine s_do rfl (d_allocA Try.zeroValue23) ?_
  rintro _ _ ⟨b1, rfl, rfl⟩
  refine s_do0 (d_storeAll Try.sizeOf23 rfl rfl rfl rfl rfl) ?_
  rintro _ _ rfl
  refine s_val rfl (v_assign rfl) ?_
  refine x_nil ?_
  refine n_then ?_
  refine x_seq ?_
  refine x_seq ?_
  refine x_region ?_
  refine s_val rfl (v_move rfl) ?_
  refine s_val rfl (v_eql rfl rfl) ?_
  refine s_val rfl (v_move rfl) ?_
  refine s_and rfl rfl rfl ?_ ?_
  · intro g3_3
    refine s_val rfl (v_move rfl) ?_
    refine s_yes rfl rfl ?_
    refine s_val rfl (v_eql rfl rfl) ?_
    refine s_val rfl (v_pick_t rfl rfl) ?_
    refine s_val rfl (v_move rfl) ?_
    refine s_or rfl rfl rfl ?_ ?_
    · intro g3_7
      refine s_no rfl rfl rfl rfl ?_
      refine s_no rfl rfl rfl rfl ?_
      refine s_nou rfl rfl rfl ?_
      refine s_nou rfl rfl rfl ?_
      refine s_no rfl rfl rfl rfl ?_
      refine s_val rfl (v_pick_t rfl rfl) ?_
      refine s_val rfl (v_move rfl) ?_
      refine s_no rfl rfl rfl rfl ?_
      refine s_no rfl rfl rfl rfl ?_
      refine s_no rfl rfl rfl rfl ?_
      refine s_nou rfl rfl rfl ?_
      refine s_nou rfl rfl rfl ?_
      refine s_nou rfl rfl rfl ?_
      refine s_no rfl rfl rfl rfl ?_
      refine s_val rfl (v_pick_t rfl rfl) ?_
      refine x_nil ?_
      refine n_then ?_
      refine x_ift rfl ?_
      refine x_seq ?_
      refine x_region ?_
      refine s_val rfl (v_assign rfl) ?_
      refine x_nil ?_
      refine n_then ?_
      refine x_ret ?_
      refine r_then ?_
      refine x_done (.inl rfl) (.cons (r_tmp rfl) .nil) ?_
      refine ⟨_, ⟨?_, rfl⟩, inferInstance⟩
      exfalso; clear hw; first | omega | (rcases h3 with h3 | h3 <;> simp_all)
    · intro g3_7
      refine s_val rfl (v_move rfl) ?_
      refine s_yes rfl rfl ?_
      refine s_val rfl (v_neq rfl rfl) ?_
      refine s_yes rfl rfl ?_
      refine s_val rfl (v_move rfl) ?_
      refine s_and rfl rfl rfl ?_ ?_
      · intro g3_10
        refine s_val rfl (v_move rfl) ?_
        refine s_yes rfl rfl ?_
        refine s_val rfl (v_neq rfl rfl) ?_
        refine s_yes rfl rfl ?_
        refine s_val rfl (v_pick_t rfl rfl) ?_
        refine s_val rfl (v_pick_f rfl rfl) ?_
        refine s_val rfl (v_move rfl) ?_
        refine s_or rfl rfl rfl ?_ ?_
        · intro g3_15
          refine s_no rfl rfl rfl rfl ?_
          refine s_no rfl rfl rfl rfl ?_
          refine s_nou rfl rfl rfl ?_
          refine s_nou rfl rfl rfl ?_
          refine s_nou rfl rfl rfl ?_
          refine s_no rfl rfl rfl rfl ?_
          refine s_val rfl (v_pick_t rfl rfl) ?_
          refine x_nil ?_
          refine n_then ?_
          refine x_ift rfl ?_
          refine x_seq ?_
          refine x_region ?_
          refine s_val rfl (v_assign rfl) ?_
          refine x_nil ?_
          refine n_then ?_
          refine x_ret ?_
          refine r_then ?_
          refine x_done (.inl rfl) (.cons (r_tmp rfl) .nil) ?_
          refine ⟨_, ⟨?_, rfl⟩, inferInstance⟩
          exfalso; clear hw; first | omega | (rcases h3 with h3 | h3 <;> simp_all)
        · intro g3_15
          refine s_val rfl (v_move rfl) ?_
          refine s_yes rfl rfl ?_
          refine s_val rfl (v_neq rfl rfl) ?_
          refine s_yes rfl rfl ?_
          refine s_val rfl (v_move rfl) ?_
          refine s_and rfl rfl rfl ?_ ?_
          · intro g3_18
            refine s_val rfl (v_loadAll Try.isAgg23 Try.sizeOf23 rfl rfl) ?_
            refine s_yes rfl rfl ?_
            refine s_val rfl (v_build Try.underlying23 Try.zeroValue23 (sized_cons Try.sizeOf4 (sized_cons Try.sizeOf3 (sized_cons Try.sizeOf3 sized_nil))) fil_nil) ?_
            refine s_yes rfl rfl ?_
            refine s_val rfl (v_neq_agg Try.eqGuardType23 rfl rfl (q_struct Try.underlying23 Try.stoodInHeld23 (qf_scal rfl Try.isAgg4 rfl rfl (q_bool Try.underlying4) (qf_scal rfl Try.isAgg3 rfl rfl (q_int Try.underlying3) (qf_scal rfl Try.isAgg3 rfl rfl (q_int Try.underlying3) qf_nil))))) ?_
            refine s_yes rfl rfl ?_
            refine s_val rfl (v_pick_t rfl rfl) ?_
            refine s_val rfl (v_pick_f rfl rfl) ?_
            refine x_nil ?_
            refine n_then ?_
            refine x_if rfl ?_ ?_
            · intro c3
              refine x_seq ?_
              refine x_region ?_
              refine s_val rfl (v_assign rfl) ?_
              refine x_nil ?_
              refine n_then ?_
              refine x_ret ?_
              refine r_then ?_
              refine x_done (.inl rfl) (.cons (r_tmp rfl) .nil) ?_
              refine ⟨_, ⟨?_, rfl⟩, inferInstance⟩
              exfalso; clear hw; first | omega | (rcases h3 with h3 | h3 <;> simp_all)
            · intro c3
              refine x_skip ?_
              refine n_then ?_
              refine x_seq ?_
              refine x_region ?_
              refine s_val rfl (v_move rfl) ?_
              refine s_do rfl (d_call Try.call16 rfl (Get_spec W0 _ w hw)) ?_
              rintro _ _ ⟨rfl, rfl⟩
              refine s_val rfl (v_move rfl) ?_
              refine s_val rfl (v_extract rfl rfl) ?_
              refine s_val rfl (v_extract rfl rfl) ?_
              refine s_do rfl (d_allocA Try.zeroValue23) ?_
              rintro _ _ ⟨b2, rfl, rfl⟩
              refine s_do0 (d_storeAll Try.sizeOf23 rfl rfl rfl rfl rfl) ?_
              rintro _ _ rfl
              refine s_val rfl (v_assign rfl) ?_
              refine x_nil ?_
              refine n_then ?_
              refine x_seq ?_
              refine x_seq ?_
              refine x_region ?_
              refine s_val rfl (v_move rfl) ?_
              refine s_val rfl (v_neq rfl rfl) ?_
              refine x_nil ?_
              refine n_then ?_
              refine x_if rfl ?_ ?_
              · intro c6
                refine x_seq ?_
                refine x_region ?_
                refine s_val rfl (v_move rfl) ?_
                refine s_val rfl (v_move rfl) ?_
                refine s_val rfl (v_eql rfl rfl) ?_
                refine s_val rfl (v_move rfl) ?_
                refine s_and rfl rfl rfl ?_ ?_
                · intro g7_4
                  refine s_val rfl (v_move rfl) ?_
                  refine s_yes rfl rfl ?_
                  refine s_val rfl (v_move rfl) ?_
                  refine s_yes rfl rfl ?_
                  refine s_val rfl (v_eql rfl rfl) ?_
                  refine s_val rfl (v_pick_t rfl rfl) ?_
                  refine s_val rfl (v_move rfl) ?_
                  refine s_and rfl rfl rfl ?_ ?_
                  · intro g7_9
                    refine s_do rfl (d_call Try.call17 rfl (awake14_spec W0 _)) ?_
                    rintro _ _ ⟨rfl, rfl⟩
                    refine s_val rfl (v_pick_t rfl rfl) ?_
                    refine s_val rfl (v_assign rfl) ?_
                    refine x_nil ?_
                    refine n_then ?_
                    refine x_ret ?_
                    refine r_then ?_
                    refine x_done (.inl rfl) (.cons (r_tmp rfl) .nil) ?_
                    refine ⟨_, ⟨?_, rfl⟩, inferInstance⟩
                    first | rfl | (exfalso; clear hw; first | omega | simp_all)
                  · intro g7_9
                    refine s_val rfl (v_pick_f rfl rfl) ?_
                    refine s_val rfl (v_assign rfl) ?_
                    refine x_nil ?_
                    refine n_then ?_
                    refine x_ret ?_
                    refine r_then ?_
                    refine x_done (.inl rfl) (.cons (r_tmp rfl) .nil) ?_
                    refine ⟨_, ⟨?_, rfl⟩, inferInstance⟩
                    first | rfl | (exfalso; clear hw; first | omega | simp_all)
                · intro g7_4
                  refine s_no rfl rfl rfl rfl ?_
                  refine s_no rfl rfl rfl rfl ?_
                  refine s_val rfl (v_pick_f rfl rfl) ?_
                  refine s_val rfl (v_move rfl) ?_
                  refine s_no rfl rfl rfl rfl ?_
                  refine s_val rfl (v_pick_f rfl rfl) ?_
                  refine s_val rfl (v_assign rfl) ?_
                  refine x_nil ?_
                  refine n_then ?_
                  refine x_ret ?_
                  refine r_then ?_
                  refine x_done (.inl rfl) (.cons (r_tmp rfl) .nil) ?_
                  refine ⟨_, ⟨?_, rfl⟩, inferInstance⟩
                  first | rfl | (exfalso; clear hw; first | omega | simp_all)
              · intro c6
                refine x_skip ?_
                refine n_then ?_
                refine x_seq ?_
                refine x_region ?_
                refine s_val rfl (v_move rfl) ?_
                refine s_val rfl (v_neq rfl rfl) ?_
                refine s_val rfl (v_move rfl) ?_
                refine s_or rfl rfl rfl ?_ ?_
                · intro g8_3
                  refine s_no rfl rfl rfl rfl ?_
                  refine s_no rfl rfl rfl rfl ?_
                  refine s_no rfl rfl rfl rfl ?_
                  refine s_no rfl rfl rfl rfl ?_
                  refine s_nou rfl rfl rfl ?_
                  refine s_nou rfl rfl rfl ?_
                  refine s_nou rfl rfl rfl ?_
                  refine s_no rfl rfl rfl rfl ?_
                  refine s_val rfl (v_pick_t rfl rfl) ?_
                  refine s_val rfl (v_move rfl) ?_
                  refine s_yes rfl rfl ?_
                  refine s_val rfl (v_move rfl) ?_
                  refine s_yes rfl rfl ?_
                  refine s_val rfl (v_neq rfl rfl) ?_
                  refine s_yes rfl rfl ?_
                  refine s_val rfl (v_move rfl) ?_
                  refine s_or rfl rfl rfl ?_ ?_
                  · intro g8_17
                    refine s_no rfl rfl rfl rfl ?_
                    refine s_no rfl rfl rfl rfl ?_
                    refine s_yes rfl rfl ?_
                    refine s_val rfl (v_pick_t rfl rfl) ?_
                    refine s_val rfl (v_pick_t rfl rfl) ?_
                    refine s_val rfl (v_move rfl) ?_
                    refine s_yes rfl rfl ?_
                    refine s_do rfl (d_call Try.call17 rfl (awake14_spec W0 _)) ?_
                    rintro _ _ ⟨rfl, rfl⟩
                    refine s_val rfl (v_pick_t rfl rfl) ?_
                    refine s_val rfl (v_assign rfl) ?_
                    refine x_nil ?_
                    refine n_then ?_
                    refine x_ret ?_
                    refine x_done (.inl rfl) (.cons (r_tmp rfl) .nil) ?_
                    refine ⟨_, ⟨?_, rfl⟩, inferInstance⟩
                    first | rfl | (exfalso; clear hw; first | omega | simp_all)
                  · intro g8_17
                    refine s_val rfl (v_loadAll Try.isAgg23 Try.sizeOf23 rfl rfl) ?_
                    refine s_yes rfl rfl ?_
                    refine s_val rfl (v_loadAll Try.isAgg23 Try.sizeOf23 rfl rfl) ?_
                    refine s_yes rfl rfl ?_
                    refine s_val rfl (v_eql_agg Try.eqGuardType23 rfl rfl (q_struct Try.underlying23 Try.stoodInHeld23 (qf_scal rfl Try.isAgg4 rfl rfl (q_bool Try.underlying4) (qf_scal rfl Try.isAgg3 rfl rfl (q_int Try.underlying3) (qf_scal rfl Try.isAgg3 rfl rfl (q_int Try.underlying3) qf_nil))))) ?_
                    refine s_yes rfl rfl ?_
                    refine s_val rfl (v_pick_f rfl rfl) ?_
                    refine s_val rfl (v_pick_t rfl rfl) ?_
                    refine s_val rfl (v_move rfl) ?_
                    refine s_and rfl rfl rfl ?_ ?_
                    · intro g8_23
                      refine s_do rfl (d_call Try.call17 rfl (awake14_spec W0 _)) ?_
                      rintro _ _ ⟨rfl, rfl⟩
                      refine s_val rfl (v_pick_t rfl rfl) ?_
                      refine s_val rfl (v_assign rfl) ?_
                      refine x_nil ?_
                      refine n_then ?_
                      refine x_ret ?_
                      refine x_done (.inl rfl) (.cons (r_tmp rfl) .nil) ?_
                      refine ⟨_, ⟨?_, rfl⟩, inferInstance⟩
                      first | rfl | (exfalso; clear hw; first | omega | simp_all)
                    · intro g8_23
                      refine s_val rfl (v_pick_f rfl rfl) ?_
                      refine s_val rfl (v_assign rfl) ?_
                      refine x_nil ?_
                      refine n_then ?_
                      refine x_ret ?_
                      refine x_done (.inl rfl) (.cons (r_tmp rfl) .nil) ?_
                      refine ⟨_, ⟨?_, rfl⟩, inferInstance⟩
                      first | rfl | (exfalso; clear hw; first | omega | simp_all)
                · intro g8_3
                  refine s_val rfl (v_move rfl) ?_
                  refine s_yes rfl rfl ?_
                  refine s_val rfl (v_fieldAddr rfl Try.underlying23 rfl Try.sizeOf3 rfl (by first | exact Nat.zero_add _ | rfl)) ?_
                  refine s_yes rfl rfl ?_
                  refine s_val rfl (v_load Try.isAgg3 rfl (cell_own rfl)) ?_
                  refine s_yes rfl rfl ?_
                  refine s_val rfl (v_eql rfl rfl) ?_
                  refine s_yes rfl rfl ?_
                  refine s_val rfl (v_move rfl) ?_
                  refine s_and rfl rfl rfl ?_ ?_
                  · intro g8_8
                    refine s_val rfl (v_fieldAddr rfl Try.underlying23 rfl Try.sizeOf3 rfl (by first | exact Nat.zero_add _ | rfl)) ?_
                    refine s_yes rfl rfl ?_
                    refine s_val rfl (v_load Try.isAgg3 rfl (cell_own rfl)) ?_
                    refine s_yes rfl rfl ?_
                    refine s_val rfl (v_eql rfl rfl) ?_
                    refine s_yes rfl rfl ?_
                    refine s_val rfl (v_pick_t rfl rfl) ?_
                    refine s_val rfl (v_pick_f rfl rfl) ?_
                    refine s_val rfl (v_move rfl) ?_
                    refine s_and rfl rfl rfl ?_ ?_
                    · intro g8_14
                      refine s_val rfl (v_move rfl) ?_
                      refine s_yes rfl rfl ?_
                      refine s_val rfl (v_neq rfl rfl) ?_
                      refine s_yes rfl rfl ?_
                      refine s_val rfl (v_move rfl) ?_
                      refine s_or rfl rfl rfl ?_ ?_
                      · intro g8_17
                        refine s_no rfl rfl rfl rfl ?_
                        refine s_no rfl rfl rfl rfl ?_
                        refine s_yes rfl rfl ?_
                        refine s_val rfl (v_pick_t rfl rfl) ?_
                        refine s_val rfl (v_pick_t rfl rfl) ?_
                        refine s_val rfl (v_move rfl) ?_
                        refine s_yes rfl rfl ?_
                        refine s_do rfl (d_call Try.call17 rfl (awake14_spec W0 _)) ?_
                        rintro _ _ ⟨rfl, rfl⟩
                        refine s_val rfl (v_pick_t rfl rfl) ?_
                        refine s_val rfl (v_assign rfl) ?_
                        refine x_nil ?_
                        refine n_then ?_
                        refine x_ret ?_
                        refine x_done (.inl rfl) (.cons (r_tmp rfl) .nil) ?_
                        refine ⟨_, ⟨?_, rfl⟩, inferInstance⟩
                        first | rfl | (exfalso; clear hw; first | omega | simp_all)
                      · intro g8_17
                        refine s_val rfl (v_loadAll Try.isAgg23 Try.sizeOf23 rfl rfl) ?_
                        refine s_yes rfl rfl ?_
                        refine s_val rfl (v_loadAll Try.isAgg23 Try.sizeOf23 rfl rfl) ?_
                        refine s_yes rfl rfl ?_
                        refine s_val rfl (v_eql_agg Try.eqGuardType23 rfl rfl (q_struct Try.underlying23 Try.stoodInHeld23 (qf_scal rfl Try.isAgg4 rfl rfl (q_bool Try.underlying4) (qf_scal rfl Try.isAgg3 rfl rfl (q_int Try.underlying3) (qf_scal rfl Try.isAgg3 rfl rfl (q_int Try.underlying3) qf_nil))))) ?_
                        refine s_yes rfl rfl ?_
                        refine s_val rfl (v_pick_f rfl rfl) ?_
                        refine s_val rfl (v_pick_t rfl rfl) ?_
                        refine s_val rfl (v_move rfl) ?_
                        refine s_and rfl rfl rfl ?_ ?_
                        · intro g8_23
                          refine s_do rfl (d_call Try.call17 rfl (awake14_spec W0 _)) ?_
                          rintro _ _ ⟨rfl, rfl⟩
                          refine s_val rfl (v_pick_t rfl rfl) ?_
                          refine s_val rfl (v_assign rfl) ?_
                          refine x_nil ?_
                          refine n_then ?_
                          refine x_ret ?_
                          refine x_done (.inl rfl) (.cons (r_tmp rfl) .nil) ?_
                          refine ⟨_, ⟨?_, rfl⟩, inferInstance⟩
                          first | rfl | (exfalso; clear hw; first | omega | simp_all)
                        · intro g8_23
                          refine s_val rfl (v_pick_f rfl rfl) ?_
                          refine s_val rfl (v_assign rfl) ?_
                          refine x_nil ?_
                          refine n_then ?_
                          refine x_ret ?_
                          refine x_done (.inl rfl) (.cons (r_tmp rfl) .nil) ?_
                          refine ⟨_, ⟨?_, rfl⟩, inferInstance⟩
                          first | rfl | (exfalso; clear hw; first | omega | simp_all)
                    · intro g8_14
                      refine s_no rfl rfl rfl rfl ?_
                      refine s_no rfl rfl rfl rfl ?_
                      refine s_nou rfl rfl rfl ?_
                      refine s_nou rfl rfl rfl ?_
                      refine s_nou rfl rfl rfl ?_
                      refine s_no rfl rfl rfl rfl ?_
                      refine s_val rfl (v_pick_f rfl rfl) ?_
                      refine s_val rfl (v_move rfl) ?_
                      refine s_no rfl rfl rfl rfl ?_
                      refine s_val rfl (v_pick_f rfl rfl) ?_
                      refine s_val rfl (v_assign rfl) ?_
                      refine x_nil ?_
                      refine n_then ?_
                      refine x_ret ?_
                      refine x_done (.inl rfl) (.cons (r_tmp rfl) .nil) ?_
                      refine ⟨_, ⟨?_, rfl⟩, inferInstance⟩
                      first | rfl | (exfalso; clear hw; first | omega | simp_all)
                  · intro g8_8
                    refine s_no rfl rfl rfl rfl ?_
                    refine s_no rfl rfl rfl rfl ?_
                    refine s_yes rfl rfl ?_
                    refine s_val rfl (v_pick_f rfl rfl) ?_
                    refine s_val rfl (v_pick_f rfl rfl) ?_
                    refine s_val rfl (v_move rfl) ?_
                    refine s_no rfl rfl rfl rfl ?_
                    refine s_no rfl rfl rfl rfl ?_
                    refine s_no rfl rfl rfl rfl ?_
                    refine s_nou rfl rfl rfl ?_
                    refine s_nou rfl rfl rfl ?_
                    refine s_nou rfl rfl rfl ?_
                    refine s_no rfl rfl rfl rfl ?_
                    refine s_val rfl (v_pick_f rfl rfl) ?_
                    refine s_val rfl (v_move rfl) ?_
                    refine s_no rfl rfl rfl rfl ?_
                    refine s_val rfl (v_pick_f rfl rfl) ?_
                    refine s_val rfl (v_assign rfl) ?_
                    refine x_nil ?_
                    refine n_then ?_
                    refine x_ret ?_
                    refine x_done (.inl rfl) (.cons (r_tmp rfl) .nil) ?_
                    refine ⟨_, ⟨?_, rfl⟩, inferInstance⟩
                    first | rfl | (exfalso; clear hw; first | omega | simp_all)
          · intro g3_18
            refine s_no rfl rfl rfl rfl ?_
            refine s_no rfl rfl rfl rfl ?_
            refine s_yes rfl rfl ?_
            refine s_val rfl (v_pick_f rfl rfl) ?_
            refine s_val rfl (v_pick_f rfl rfl) ?_
            refine x_nil ?_
            refine n_then ?_
            refine x_iff rfl ?_
            refine x_skip ?_
            refine n_then ?_
            refine x_seq ?_
            refine x_region ?_
            refine s_val rfl (v_move rfl) ?_
            refine s_do rfl (d_call Try.call16 rfl (Get_spec W0 _ w hw)) ?_
            rintro _ _ ⟨rfl, rfl⟩
            refine s_val rfl (v_move rfl) ?_
            refine s_val rfl (v_extract rfl rfl) ?_
            refine s_val rfl (v_extract rfl rfl) ?_
            refine s_do rfl (d_allocA Try.zeroValue23) ?_
            rintro _ _ ⟨b3, rfl, rfl⟩
            refine s_do0 (d_storeAll Try.sizeOf23 rfl rfl rfl rfl rfl) ?_
            rintro _ _ rfl
            refine s_val rfl (v_assign rfl) ?_
            refine x_nil ?_
            refine n_then ?_
            refine x_seq ?_
            refine x_seq ?_
            refine x_region ?_
            refine s_val rfl (v_move rfl) ?_
            refine s_val rfl (v_neq rfl rfl) ?_
            refine x_nil ?_
            refine n_then ?_
            refine x_if rfl ?_ ?_
            · intro c6
              refine x_seq ?_
              refine x_region ?_
              refine s_val rfl (v_move rfl) ?_
              refine s_val rfl (v_move rfl) ?_
              refine s_val rfl (v_eql rfl rfl) ?_
              refine s_val rfl (v_move rfl) ?_
              refine s_and rfl rfl rfl ?_ ?_
              · intro g7_4
                refine s_val rfl (v_move rfl) ?_
                refine s_yes rfl rfl ?_
                refine s_val rfl (v_move rfl) ?_
                refine s_yes rfl rfl ?_
                refine s_val rfl (v_eql rfl rfl) ?_
                refine s_val rfl (v_pick_t rfl rfl) ?_
                refine s_val rfl (v_move rfl) ?_
                refine s_and rfl rfl rfl ?_ ?_
                · intro g7_9
                  refine s_do rfl (d_call Try.call17 rfl (awake14_spec W0 _)) ?_
                  rintro _ _ ⟨rfl, rfl⟩
                  refine s_val rfl (v_pick_t rfl rfl) ?_
                  refine s_val rfl (v_assign rfl) ?_
                  refine x_nil ?_
                  refine n_then ?_
                  refine x_ret ?_
                  refine r_then ?_
                  refine x_done (.inl rfl) (.cons (r_tmp rfl) .nil) ?_
                  refine ⟨_, ⟨?_, rfl⟩, inferInstance⟩
                  first | rfl | (exfalso; clear hw; first | omega | simp_all)
                · intro g7_9
                  refine s_val rfl (v_pick_f rfl rfl) ?_
                  refine s_val rfl (v_assign rfl) ?_
                  refine x_nil ?_
                  refine n_then ?_
                  refine x_ret ?_
                  refine r_then ?_
                  refine x_done (.inl rfl) (.cons (r_tmp rfl) .nil) ?_
                  refine ⟨_, ⟨?_, rfl⟩, inferInstance⟩
                  first | rfl | (exfalso; clear hw; first | omega | simp_all)
              · intro g7_4
                refine s_no rfl rfl rfl rfl ?_
                refine s_no rfl rfl rfl rfl ?_
                refine s_val rfl (v_pick_f rfl rfl) ?_
                refine s_val rfl (v_move rfl) ?_
                refine s_no rfl rfl rfl rfl ?_
                refine s_val rfl (v_pick_f rfl rfl) ?_
                refine s_val rfl (v_assign rfl) ?_
                refine x_nil ?_
                refine n_then ?_
                refine x_ret ?_
                refine r_then ?_
                refine x_done (.inl rfl) (.cons (r_tmp rfl) .nil) ?_
                refine ⟨_, ⟨?_, rfl⟩, inferInstance⟩
                first | rfl | (exfalso; clear hw; first | omega | simp_all)
            · intro c6
              refine x_skip ?_
              refine n_then ?_
              refine x_seq ?_
              refine x_region ?_
              refine s_val rfl (v_move rfl) ?_
              refine s_val rfl (v_neq rfl rfl) ?_
              refine s_val rfl (v_move rfl) ?_
              refine s_or rfl rfl rfl ?_ ?_
              · intro g8_3
                refine s_no rfl rfl rfl rfl ?_
                refine s_no rfl rfl rfl rfl ?_
                refine s_no rfl rfl rfl rfl ?_
                refine s_no rfl rfl rfl rfl ?_
                refine s_nou rfl rfl rfl ?_
                refine s_nou rfl rfl rfl ?_
                refine s_nou rfl rfl rfl ?_
                refine s_no rfl rfl rfl rfl ?_
                refine s_val rfl (v_pick_t rfl rfl) ?_
                refine s_val rfl (v_move rfl) ?_
                refine s_yes rfl rfl ?_
                refine s_val rfl (v_move rfl) ?_
                refine s_yes rfl rfl ?_
                refine s_val rfl (v_neq rfl rfl) ?_
                refine s_yes rfl rfl ?_
                refine s_val rfl (v_move rfl) ?_
                refine s_or rfl rfl rfl ?_ ?_
                · intro g8_17
                  refine s_no rfl rfl rfl rfl ?_
                  refine s_no rfl rfl rfl rfl ?_
                  refine s_yes rfl rfl ?_
                  refine s_val rfl (v_pick_t rfl rfl) ?_
                  refine s_val rfl (v_pick_t rfl rfl) ?_
                  refine s_val rfl (v_move rfl) ?_
                  refine s_yes rfl rfl ?_
                  refine s_do rfl (d_call Try.call17 rfl (awake14_spec W0 _)) ?_
                  rintro _ _ ⟨rfl, rfl⟩
                  refine s_val rfl (v_pick_t rfl rfl) ?_
                  refine s_val rfl (v_assign rfl) ?_
                  refine x_nil ?_
                  refine n_then ?_
                  refine x_ret ?_
                  refine x_done (.inl rfl) (.cons (r_tmp rfl) .nil) ?_
                  refine ⟨_, ⟨?_, rfl⟩, inferInstance⟩
                  first | rfl | (exfalso; clear hw; first | omega | simp_all)
                · intro g8_17
                  refine s_val rfl (v_loadAll Try.isAgg23 Try.sizeOf23 rfl rfl) ?_
                  refine s_yes rfl rfl ?_
                  refine s_val rfl (v_loadAll Try.isAgg23 Try.sizeOf23 rfl rfl) ?_
                  refine s_yes rfl rfl ?_
                  refine s_val rfl (v_eql_agg Try.eqGuardType23 rfl rfl (q_struct Try.underlying23 Try.stoodInHeld23 (qf_scal rfl Try.isAgg4 rfl rfl (q_bool Try.underlying4) (qf_scal rfl Try.isAgg3 rfl rfl (q_int Try.underlying3) (qf_scal rfl Try.isAgg3 rfl rfl (q_int Try.underlying3) qf_nil))))) ?_
                  refine s_yes rfl rfl ?_
                  refine s_val rfl (v_pick_f rfl rfl) ?_
                  refine s_val rfl (v_pick_t rfl rfl) ?_
                  refine s_val rfl (v_move rfl) ?_
                  refine s_and rfl rfl rfl ?_ ?_
                  · intro g8_23
                    refine s_do rfl (d_call Try.call17 rfl (awake14_spec W0 _)) ?_
                    rintro _ _ ⟨rfl, rfl⟩
                    refine s_val rfl (v_pick_t rfl rfl) ?_
                    refine s_val rfl (v_assign rfl) ?_
                    refine x_nil ?_
                    refine n_then ?_
                    refine x_ret ?_
                    refine x_done (.inl rfl) (.cons (r_tmp rfl) .nil) ?_
                    refine ⟨_, ⟨?_, rfl⟩, inferInstance⟩
                    first | rfl | (exfalso; clear hw; first | omega | simp_all)
                  · intro g8_23
                    refine s_val rfl (v_pick_f rfl rfl) ?_
                    refine s_val rfl (v_assign rfl) ?_
                    refine x_nil ?_
                    refine n_then ?_
                    refine x_ret ?_
                    refine x_done (.inl rfl) (.cons (r_tmp rfl) .nil) ?_
                    refine ⟨_, ⟨?_, rfl⟩, inferInstance⟩
                    first | rfl | (exfalso; clear hw; first | omega | simp_all)
              · intro g8_3
                refine s_val rfl (v_move rfl) ?_
                refine s_yes rfl rfl ?_
                refine s_val rfl (v_fieldAddr rfl Try.underlying23 rfl Try.sizeOf3 rfl (by first | exact Nat.zero_add _ | rfl)) ?_
                refine s_yes rfl rfl ?_
                refine s_val rfl (v_load Try.isAgg3 rfl (cell_own rfl)) ?_
                refine s_yes rfl rfl ?_
                refine s_val rfl (v_eql rfl rfl) ?_
                refine s_yes rfl rfl ?_
                refine s_val rfl (v_move rfl) ?_
                refine s_and rfl rfl rfl ?_ ?_
                · intro g8_8
                  refine s_val rfl (v_fieldAddr rfl Try.underlying23 rfl Try.sizeOf3 rfl (by first | exact Nat.zero_add _ | rfl)) ?_
                  refine s_yes rfl rfl ?_
                  refine s_val rfl (v_load Try.isAgg3 rfl (cell_own rfl)) ?_
                  refine s_yes rfl rfl ?_
                  refine s_val rfl (v_eql rfl rfl) ?_
                  refine s_yes rfl rfl ?_
                  refine s_val rfl (v_pick_t rfl rfl) ?_
                  refine s_val rfl (v_pick_f rfl rfl) ?_
                  refine s_val rfl (v_move rfl) ?_
                  refine s_and rfl rfl rfl ?_ ?_
                  · intro g8_14
                    refine s_val rfl (v_move rfl) ?_
                    refine s_yes rfl rfl ?_
                    refine s_val rfl (v_neq rfl rfl) ?_
                    refine s_yes rfl rfl ?_
                    refine s_val rfl (v_move rfl) ?_
                    refine s_or rfl rfl rfl ?_ ?_
                    · intro g8_17
                      refine s_no rfl rfl rfl rfl ?_
                      refine s_no rfl rfl rfl rfl ?_
                      refine s_yes rfl rfl ?_
                      refine s_val rfl (v_pick_t rfl rfl) ?_
                      refine s_val rfl (v_pick_t rfl rfl) ?_
                      refine s_val rfl (v_move rfl) ?_
                      refine s_yes rfl rfl ?_
                      refine s_do rfl (d_call Try.call17 rfl (awake14_spec W0 _)) ?_
                      rintro _ _ ⟨rfl, rfl⟩
                      refine s_val rfl (v_pick_t rfl rfl) ?_
                      refine s_val rfl (v_assign rfl) ?_
                      refine x_nil ?_
                      refine n_then ?_
                      refine x_ret ?_
                      refine x_done (.inl rfl) (.cons (r_tmp rfl) .nil) ?_
                      refine ⟨_, ⟨?_, rfl⟩, inferInstance⟩
                      first | rfl | (exfalso; clear hw; first | omega | simp_all)
                    · intro g8_17
                      refine s_val rfl (v_loadAll Try.isAgg23 Try.sizeOf23 rfl rfl) ?_
                      refine s_yes rfl rfl ?_
                      refine s_val rfl (v_loadAll Try.isAgg23 Try.sizeOf23 rfl rfl) ?_
                      refine s_yes rfl rfl ?_
                      refine s_val rfl (v_eql_agg Try.eqGuardType23 rfl rfl (q_struct Try.underlying23 Try.stoodInHeld23 (qf_scal rfl Try.isAgg4 rfl rfl (q_bool Try.underlying4) (qf_scal rfl Try.isAgg3 rfl rfl (q_int Try.underlying3) (qf_scal rfl Try.isAgg3 rfl rfl (q_int Try.underlying3) qf_nil))))) ?_
                      refine s_yes rfl rfl ?_
                      refine s_val rfl (v_pick_f rfl rfl) ?_
                      refine s_val rfl (v_pick_t rfl rfl) ?_
                      refine s_val rfl (v_move rfl) ?_
                      refine s_and rfl rfl rfl ?_ ?_
                      · intro g8_23
                        refine s_do rfl (d_call Try.call17 rfl (awake14_spec W0 _)) ?_
                        rintro _ _ ⟨rfl, rfl⟩
                        refine s_val rfl (v_pick_t rfl rfl) ?_
                        refine s_val rfl (v_assign rfl) ?_
                        refine x_nil ?_
                        refine n_then ?_
                        refine x_ret ?_
                        refine x_done (.inl rfl) (.cons (r_tmp rfl) .nil) ?_
                        refine ⟨_, ⟨?_, rfl⟩, inferInstance⟩
                        first | rfl | (exfalso; clear hw; first | omega | simp_all)
                      · intro g8_23
                        refine s_val rfl (v_pick_f rfl rfl) ?_
                        refine s_val rfl (v_assign rfl) ?_
                        refine x_nil ?_
                        refine n_then ?_
                        refine x_ret ?_
                        refine x_done (.inl rfl) (.cons (r_tmp rfl) .nil) ?_
                        refine ⟨_, ⟨?_, rfl⟩, inferInstance⟩
                        first | rfl | (exfalso; clear hw; first | omega | simp_all)
                  · intro g8_14
                    refine s_no rfl rfl rfl rfl ?_
                    refine s_no rfl rfl rfl rfl ?_
                    refine s_nou rfl rfl rfl ?_
                    refine s_nou rfl rfl rfl ?_
                    refine s_nou rfl rfl rfl ?_
                    refine s_no rfl rfl rfl rfl ?_
                    refine s_val rfl (v_pick_f rfl rfl) ?_
                    refine s_val rfl (v_move rfl) ?_
                    refine s_no rfl rfl rfl rfl ?_
                    refine s_val rfl (v_pick_f rfl rfl) ?_
                    refine s_val rfl (v_assign rfl) ?_
                    refine x_nil ?_
                    refine n_then ?_
                    refine x_ret ?_
                    refine x_done (.inl rfl) (.cons (r_tmp rfl) .nil) ?_
                    refine ⟨_, ⟨?_, rfl⟩, inferInstance⟩
                    first | rfl | (exfalso; clear hw; first | omega | simp_all)
                · intro g8_8
                  refine s_no rfl rfl rfl rfl ?_
                  refine s_no rfl rfl rfl rfl ?_
                  refine s_yes rfl rfl ?_
                  refine s_val rfl (v_pick_f rfl rfl) ?_
                  refine s_val rfl (v_pick_f rfl rfl) ?_
                  refine s_val rfl (v_move rfl) ?_
                  refine s_no rfl rfl rfl rfl ?_
                  refine s_no rfl rfl rfl rfl ?_
                  refine s_no rfl rfl rfl rfl ?_
                  refine s_nou rfl rfl rfl ?_
                  refine s_nou rfl rfl rfl ?_
                  refine s_nou rfl rfl rfl ?_
                  refine s_no rfl rfl rfl rfl ?_
                  refine s_val rfl (v_pick_f rfl rfl) ?_
                  refine s_val rfl (v_move rfl) ?_
                  refine s_no rfl rfl rfl rfl ?_
                  refine s_val rfl (v_pick_f rfl rfl) ?_
                  refine s_val rfl (v_assign rfl) ?_
                  refine x_nil ?_
                  refine n_then ?_
                  refine x_ret ?_
                  refine x_done (.inl rfl) (.cons (r_tmp rfl) .nil) ?_
                  refine ⟨_, ⟨?_, rfl⟩, inferInstance⟩
                  first | rfl | (exfalso; clear hw; first | omega | simp_all)
      · intro g3_10
        refine s_no rfl rfl rfl rfl ?_
        refine s_yes rfl rfl ?_
        refine s_val rfl (v_pick_f rfl rfl) ?_
        refine s_val rfl (v_pick_f rfl rfl) ?_
        refine s_val rfl (v_move rfl) ?_
        refine s_yes rfl rfl ?_
        refine s_val rfl (v_move rfl) ?_
        refine s_yes rfl rfl ?_
        refine s_val rfl (v_neq rfl rfl) ?_
        refine s_yes rfl rfl ?_
        refine s_val rfl (v_move rfl) ?_
        refine s_and rfl rfl rfl ?_ ?_
        · intro g3_18
          refine s_val rfl (v_loadAll Try.isAgg23 Try.sizeOf23 rfl rfl) ?_
          refine s_yes rfl rfl ?_
          refine s_val rfl (v_build Try.underlying23 Try.zeroValue23 (sized_cons Try.sizeOf4 (sized_cons Try.sizeOf3 (sized_cons Try.sizeOf3 sized_nil))) fil_nil) ?_
          refine s_yes rfl rfl ?_
          refine s_val rfl (v_neq_agg Try.eqGuardType23 rfl rfl (q_struct Try.underlying23 Try.stoodInHeld23 (qf_scal rfl Try.isAgg4 rfl rfl (q_bool Try.underlying4) (qf_scal rfl Try.isAgg3 rfl rfl (q_int Try.underlying3) (qf_scal rfl Try.isAgg3 rfl rfl (q_int Try.underlying3) qf_nil))))) ?_
          refine s_yes rfl rfl ?_
          refine s_val rfl (v_pick_t rfl rfl) ?_
          refine s_val rfl (v_pick_f rfl rfl) ?_
          refine x_nil ?_
          refine n_then ?_
          refine x_if rfl ?_ ?_
          · intro c3
            refine x_seq ?_
            refine x_region ?_
            refine s_val rfl (v_assign rfl) ?_
            refine x_nil ?_
            refine n_then ?_
            refine x_ret ?_
            refine r_then ?_
            refine x_done (.inl rfl) (.cons (r_tmp rfl) .nil) ?_
            refine ⟨_, ⟨?_, rfl⟩, inferInstance⟩
            exfalso; clear hw; first | omega | (rcases h3 with h3 | h3 <;> simp_all)
          · intro c3
            refine x_skip ?_
            refine n_then ?_
            refine x_seq ?_
            refine x_region ?_
            refine s_val rfl (v_move rfl) ?_
            refine s_do rfl (d_call Try.call16 rfl (Get_spec W0 _ w hw)) ?_
            rintro _ _ ⟨rfl, rfl⟩
            refine s_val rfl (v_move rfl) ?_
            refine s_val rfl (v_extract rfl rfl) ?_
            refine s_val rfl (v_extract rfl rfl) ?_
            refine s_do rfl (d_allocA Try.zeroValue23) ?_
            rintro _ _ ⟨b4, rfl, rfl⟩
            refine s_do0 (d_storeAll Try.sizeOf23 rfl rfl rfl rfl rfl) ?_
            rintro _ _ rfl
            refine s_val rfl (v_assign rfl) ?_
            refine x_nil ?_
            refine n_then ?_
            refine x_seq ?_
            refine x_seq ?_
            refine x_region ?_
            refine s_val rfl (v_move rfl) ?_
            refine s_val rfl (v_neq rfl rfl) ?_
            refine x_nil ?_
            refine n_then ?_
            refine x_if rfl ?_ ?_
            · intro c6
              refine x_seq ?_
              refine x_region ?_
              refine s_val rfl (v_move rfl) ?_
              refine s_val rfl (v_move rfl) ?_
              refine s_val rfl (v_eql rfl rfl) ?_
              refine s_val rfl (v_move rfl) ?_
              refine s_and rfl rfl rfl ?_ ?_
              · intro g7_4
                refine s_val rfl (v_move rfl) ?_
                refine s_yes rfl rfl ?_
                refine s_val rfl (v_move rfl) ?_
                refine s_yes rfl rfl ?_
                refine s_val rfl (v_eql rfl rfl) ?_
                refine s_val rfl (v_pick_t rfl rfl) ?_
                refine s_val rfl (v_move rfl) ?_
                refine s_and rfl rfl rfl ?_ ?_
                · intro g7_9
                  refine s_do rfl (d_call Try.call17 rfl (awake14_spec W0 _)) ?_
                  rintro _ _ ⟨rfl, rfl⟩
                  refine s_val rfl (v_pick_t rfl rfl) ?_
                  refine s_val rfl (v_assign rfl) ?_
                  refine x_nil ?_
                  refine n_then ?_
                  refine x_ret ?_
                  refine r_then ?_
                  refine x_done (.inl rfl) (.cons (r_tmp rfl) .nil) ?_
                  refine ⟨_, ⟨?_, rfl⟩, inferInstance⟩
                  first | rfl | (exfalso; clear hw; first | omega | simp_all)
                · intro g7_9
                  refine s_val rfl (v_pick_f rfl rfl) ?_
                  refine s_val rfl (v_assign rfl) ?_
                  refine x_nil ?_
                  refine n_then ?_
                  refine x_ret ?_
                  refine r_then ?_
                  refine x_done (.inl rfl) (.cons (r_tmp rfl) .nil) ?_
                  refine ⟨_, ⟨?_, rfl⟩, inferInstance⟩
                  first | rfl | (exfalso; clear hw; first | omega | simp_all)
              · intro g7_4
                refine s_no rfl rfl rfl rfl ?_
                refine s_no rfl rfl rfl rfl ?_
                refine s_val rfl (v_pick_f rfl rfl) ?_
                refine s_val rfl (v_move rfl) ?_
                refine s_no rfl rfl rfl rfl ?_
                refine s_val rfl (v_pick_f rfl rfl) ?_
                refine s_val rfl (v_assign rfl) ?_
                refine x_nil ?_
                refine n_then ?_
                refine x_ret ?_
                refine r_then ?_
                refine x_done (.inl rfl) (.cons (r_tmp rfl) .nil) ?_
                refine ⟨_, ⟨?_, rfl⟩, inferInstance⟩
                first | rfl | (exfalso; clear hw; first | omega | simp_all)
            · intro c6
              refine x_skip ?_
              refine n_then ?_
              refine x_seq ?_
              refine x_region ?_
              refine s_val rfl (v_move rfl) ?_
              refine s_val rfl (v_neq rfl rfl) ?_
              refine s_val rfl (v_move rfl) ?_
              refine s_or rfl rfl rfl ?_ ?_
              · intro g8_3
                refine s_no rfl rfl rfl rfl ?_
                refine s_no rfl rfl rfl rfl ?_
                refine s_no rfl rfl rfl rfl ?_
                refine s_no rfl rfl rfl rfl ?_
                refine s_nou rfl rfl rfl ?_
                refine s_nou rfl rfl rfl ?_
                refine s_nou rfl rfl rfl ?_
                refine s_no rfl rfl rfl rfl ?_
                refine s_val rfl (v_pick_t rfl rfl) ?_
                refine s_val rfl (v_move rfl) ?_
                refine s_yes rfl rfl ?_
                refine s_val rfl (v_move rfl) ?_
                refine s_yes rfl rfl ?_
                refine s_val rfl (v_neq rfl rfl) ?_
                refine s_yes rfl rfl ?_
                refine s_val rfl (v_move rfl) ?_
                refine s_or rfl rfl rfl ?_ ?_
                · intro g8_17
                  refine s_no rfl rfl rfl rfl ?_
                  refine s_no rfl rfl rfl rfl ?_
                  refine s_yes rfl rfl ?_
                  refine s_val rfl (v_pick_t rfl rfl) ?_
                  refine s_val rfl (v_pick_t rfl rfl) ?_
                  refine s_val rfl (v_move rfl) ?_
                  refine s_yes rfl rfl ?_
                  refine s_do rfl (d_call Try.call17 rfl (awake14_spec W0 _)) ?_
                  rintro _ _ ⟨rfl, rfl⟩
                  refine s_val rfl (v_pick_t rfl rfl) ?_
                  refine s_val rfl (v_assign rfl) ?_
                  refine x_nil ?_
                  refine n_then ?_
                  refine x_ret ?_
                  refine x_done (.inl rfl) (.cons (r_tmp rfl) .nil) ?_
                  refine ⟨_, ⟨?_, rfl⟩, inferInstance⟩
                  first | rfl | (exfalso; clear hw; first | omega | simp_all)
                · intro g8_17
                  refine s_val rfl (v_loadAll Try.isAgg23 Try.sizeOf23 rfl rfl) ?_
                  refine s_yes rfl rfl ?_
                  refine s_val rfl (v_loadAll Try.isAgg23 Try.sizeOf23 rfl rfl) ?_
                  refine s_yes rfl rfl ?_
                  refine s_val rfl (v_eql_agg Try.eqGuardType23 rfl rfl (q_struct Try.underlying23 Try.stoodInHeld23 (qf_scal rfl Try.isAgg4 rfl rfl (q_bool Try.underlying4) (qf_scal rfl Try.isAgg3 rfl rfl (q_int Try.underlying3) (qf_scal rfl Try.isAgg3 rfl rfl (q_int Try.underlying3) qf_nil))))) ?_
                  refine s_yes rfl rfl ?_
                  refine s_val rfl (v_pick_f rfl rfl) ?_
                  refine s_val rfl (v_pick_t rfl rfl) ?_
                  refine s_val rfl (v_move rfl) ?_
                  refine s_and rfl rfl rfl ?_ ?_
                  · intro g8_23
                    refine s_do rfl (d_call Try.call17 rfl (awake14_spec W0 _)) ?_
                    rintro _ _ ⟨rfl, rfl⟩
                    refine s_val rfl (v_pick_t rfl rfl) ?_
                    refine s_val rfl (v_assign rfl) ?_
                    refine x_nil ?_
                    refine n_then ?_
                    refine x_ret ?_
                    refine x_done (.inl rfl) (.cons (r_tmp rfl) .nil) ?_
                    refine ⟨_, ⟨?_, rfl⟩, inferInstance⟩
                    first | rfl | (exfalso; clear hw; first | omega | simp_all)
                  · intro g8_23
                    refine s_val rfl (v_pick_f rfl rfl) ?_
                    refine s_val rfl (v_assign rfl) ?_
                    refine x_nil ?_
                    refine n_then ?_
                    refine x_ret ?_
                    refine x_done (.inl rfl) (.cons (r_tmp rfl) .nil) ?_
                    refine ⟨_, ⟨?_, rfl⟩, inferInstance⟩
                    first | rfl | (exfalso; clear hw; first | omega | simp_all)
              · intro g8_3
                refine s_val rfl (v_move rfl) ?_
                refine s_yes rfl rfl ?_
                refine s_val rfl (v_fieldAddr rfl Try.underlying23 rfl Try.sizeOf3 rfl (by first | exact Nat.zero_add _ | rfl)) ?_
                refine s_yes rfl rfl ?_
                refine s_val rfl (v_load Try.isAgg3 rfl (cell_own rfl)) ?_
                refine s_yes rfl rfl ?_
                refine s_val rfl (v_eql rfl rfl) ?_
                refine s_yes rfl rfl ?_
                refine s_val rfl (v_move rfl) ?_
                refine s_and rfl rfl rfl ?_ ?_
                · intro g8_8
                  refine s_val rfl (v_fieldAddr rfl Try.underlying23 rfl Try.sizeOf3 rfl (by first | exact Nat.zero_add _ | rfl)) ?_
                  refine s_yes rfl rfl ?_
                  refine s_val rfl (v_load Try.isAgg3 rfl (cell_own rfl)) ?_
                  refine s_yes rfl rfl ?_
                  refine s_val rfl (v_eql rfl rfl) ?_
                  refine s_yes rfl rfl ?_
                  refine s_val rfl (v_pick_t rfl rfl) ?_
                  refine s_val rfl (v_pick_f rfl rfl) ?_
                  refine s_val rfl (v_move rfl) ?_
                  refine s_and rfl rfl rfl ?_ ?_
                  · intro g8_14
                    refine s_val rfl (v_move rfl) ?_
                    refine s_yes rfl rfl ?_
                    refine s_val rfl (v_neq rfl rfl) ?_
                    refine s_yes rfl rfl ?_
                    refine s_val rfl (v_move rfl) ?_
                    refine s_or rfl rfl rfl ?_ ?_
                    · intro g8_17
                      refine s_no rfl rfl rfl rfl ?_
                      refine s_no rfl rfl rfl rfl ?_
                      refine s_yes rfl rfl ?_
                      refine s_val rfl (v_pick_t rfl rfl) ?_
                      refine s_val rfl (v_pick_t rfl rfl) ?_
                      refine s_val rfl (v_move rfl) ?_
                      refine s_yes rfl rfl ?_
                      refine s_do rfl (d_call Try.call17 rfl (awake14_spec W0 _)) ?_
                      rintro _ _ ⟨rfl, rfl⟩
                      refine s_val rfl (v_pick_t rfl rfl) ?_
                      refine s_val rfl (v_assign rfl) ?_
                      refine x_nil ?_
                      refine n_then ?_
                      refine x_ret ?_
                      refine x_done (.inl rfl) (.cons (r_tmp rfl) .nil) ?_
                      refine ⟨_, ⟨?_, rfl⟩, inferInstance⟩
                      first | rfl | (exfalso; clear hw; first | omega | simp_all)
                    · intro g8_17
                      refine s_val rfl (v_loadAll Try.isAgg23 Try.sizeOf23 rfl rfl) ?_
                      refine s_yes rfl rfl ?_
                      refine s_val rfl (v_loadAll Try.isAgg23 Try.sizeOf23 rfl rfl) ?_
                      refine s_yes rfl rfl ?_
                      refine s_val rfl (v_eql_agg Try.eqGuardType23 rfl rfl (q_struct Try.underlying23 Try.stoodInHeld23 (qf_scal rfl Try.isAgg4 rfl rfl (q_bool Try.underlying4) (qf_scal rfl Try.isAgg3 rfl rfl (q_int Try.underlying3) (qf_scal rfl Try.isAgg3 rfl rfl (q_int Try.underlying3) qf_nil))))) ?_
                      refine s_yes rfl rfl ?_
                      refine s_val rfl (v_pick_f rfl rfl) ?_
                      refine s_val rfl (v_pick_t rfl rfl) ?_
                      refine s_val rfl (v_move rfl) ?_
                      refine s_and rfl rfl rfl ?_ ?_
                      · intro g8_23
                        refine s_do rfl (d_call Try.call17 rfl (awake14_spec W0 _)) ?_
                        rintro _ _ ⟨rfl, rfl⟩
                        refine s_val rfl (v_pick_t rfl rfl) ?_
                        refine s_val rfl (v_assign rfl) ?_
                        refine x_nil ?_
                        refine n_then ?_
                        refine x_ret ?_
                        refine x_done (.inl rfl) (.cons (r_tmp rfl) .nil) ?_
                        refine ⟨_, ⟨?_, rfl⟩, inferInstance⟩
                        first | rfl | (exfalso; clear hw; first | omega | simp_all)
                      · intro g8_23
                        refine s_val rfl (v_pick_f rfl rfl) ?_
                        refine s_val rfl (v_assign rfl) ?_
                        refine x_nil ?_
                        refine n_then ?_
                        refine x_ret ?_
                        refine x_done (.inl rfl) (.cons (r_tmp rfl) .nil) ?_
                        refine ⟨_, ⟨?_, rfl⟩, inferInstance⟩
                        first | rfl | (exfalso; clear hw; first | omega | simp_all)
                  · intro g8_14
                    refine s_no rfl rfl rfl rfl ?_
                    refine s_no rfl rfl rfl rfl ?_
                    refine s_nou rfl rfl rfl ?_
                    refine s_nou rfl rfl rfl ?_
                    refine s_nou rfl rfl rfl ?_
                    refine s_no rfl rfl rfl rfl ?_
                    refine s_val rfl (v_pick_f rfl rfl) ?_
                    refine s_val rfl (v_move rfl) ?_
                    refine s_no rfl rfl rfl rfl ?_
                    refine s_val rfl (v_pick_f rfl rfl) ?_
                    refine s_val rfl (v_assign rfl) ?_
                    refine x_nil ?_
                    refine n_then ?_
                    refine x_ret ?_
                    refine x_done (.inl rfl) (.cons (r_tmp rfl) .nil) ?_
                    refine ⟨_, ⟨?_, rfl⟩, inferInstance⟩
                    first | rfl | (exfalso; clear hw; first | omega | simp_all)
                · intro g8_8
                  refine s_no rfl rfl rfl rfl ?_
                  refine s_no rfl rfl rfl rfl ?_
                  refine s_yes rfl rfl ?_
                  refine s_val rfl (v_pick_f rfl rfl) ?_
                  refine s_val rfl (v_pick_f rfl rfl) ?_
                  refine s_val rfl (v_move rfl) ?_
                  refine s_no rfl rfl rfl rfl ?_
                  refine s_no rfl rfl rfl rfl ?_
                  refine s_no rfl rfl rfl rfl ?_
                  refine s_nou rfl rfl rfl ?_
                  refine s_nou rfl rfl rfl ?_
                  refine s_nou rfl rfl rfl ?_
                  refine s_no rfl rfl rfl rfl ?_
                  refine s_val rfl (v_pick_f rfl rfl) ?_
                  refine s_val rfl (v_move rfl) ?_
                  refine s_no rfl rfl rfl rfl ?_
                  refine s_val rfl (v_pick_f rfl rfl) ?_
                  refine s_val rfl (v_assign rfl) ?_
                  refine x_nil ?_
                  refine n_then ?_
                  refine x_ret ?_
                  refine x_done (.inl rfl) (.cons (r_tmp rfl) .nil) ?_
                  refine ⟨_, ⟨?_, rfl⟩, inferInstance⟩
                  first | rfl | (exfalso; clear hw; first | omega | simp_all)
        · intro g3_18
          refine s_no rfl rfl rfl rfl ?_
          refine s_no rfl rfl rfl rfl ?_
          refine s_yes rfl rfl ?_
          refine s_val rfl (v_pick_f rfl rfl) ?_
          refine s_val rfl (v_pick_f rfl rfl) ?_
          refine x_nil ?_
          refine n_then ?_
          refine x_iff rfl ?_
          refine x_skip ?_
          refine n_then ?_
          refine x_seq ?_
          refine x_region ?_
          refine s_val rfl (v_move rfl) ?_
          refine s_do rfl (d_call Try.call16 rfl (Get_spec W0 _ w hw)) ?_
          rintro _ _ ⟨rfl, rfl⟩
          refine s_val rfl (v_move rfl) ?_
          refine s_val rfl (v_extract rfl rfl) ?_
          refine s_val rfl (v_extract rfl rfl) ?_
          refine s_do rfl (d_allocA Try.zeroValue23) ?_
          rintro _ _ ⟨b5, rfl, rfl⟩
          refine s_do0 (d_storeAll Try.sizeOf23 rfl rfl rfl rfl rfl) ?_
          rintro _ _ rfl
          refine s_val rfl (v_assign rfl) ?_
          refine x_nil ?_
          refine n_then ?_
          refine x_seq ?_
          refine x_seq ?_
          refine x_region ?_
          refine s_val rfl (v_move rfl) ?_
          refine s_val rfl (v_neq rfl rfl) ?_
          refine x_nil ?_
          refine n_then ?_
          refine x_if rfl ?_ ?_
          · intro c6
            refine x_seq ?_
            refine x_region ?_
            refine s_val rfl (v_move rfl) ?_
            refine s_val rfl (v_move rfl) ?_
            refine s_val rfl (v_eql rfl rfl) ?_
            refine s_val rfl (v_move rfl) ?_
            refine s_and rfl rfl rfl ?_ ?_
            · intro g7_4
              refine s_val rfl (v_move rfl) ?_
              refine s_yes rfl rfl ?_
              refine s_val rfl (v_move rfl) ?_
              refine s_yes rfl rfl ?_
              refine s_val rfl (v_eql rfl rfl) ?_
              refine s_val rfl (v_pick_t rfl rfl) ?_
              refine s_val rfl (v_move rfl) ?_
              refine s_and rfl rfl rfl ?_ ?_
              · intro g7_9
                refine s_do rfl (d_call Try.call17 rfl (awake14_spec W0 _)) ?_
                rintro _ _ ⟨rfl, rfl⟩
                refine s_val rfl (v_pick_t rfl rfl) ?_
                refine s_val rfl (v_assign rfl) ?_
                refine x_nil ?_
                refine n_then ?_
                refine x_ret ?_
                refine r_then ?_
                refine x_done (.inl rfl) (.cons (r_tmp rfl) .nil) ?_
                refine ⟨_, ⟨?_, rfl⟩, inferInstance⟩
                first | rfl | (exfalso; clear hw; first | omega | simp_all)
              · intro g7_9
                refine s_val rfl (v_pick_f rfl rfl) ?_
                refine s_val rfl (v_assign rfl) ?_
                refine x_nil ?_
                refine n_then ?_
                refine x_ret ?_
                refine r_then ?_
                refine x_done (.inl rfl) (.cons (r_tmp rfl) .nil) ?_
                refine ⟨_, ⟨?_, rfl⟩, inferInstance⟩
                first | rfl | (exfalso; clear hw; first | omega | simp_all)
            · intro g7_4
              refine s_no rfl rfl rfl rfl ?_
              refine s_no rfl rfl rfl rfl ?_
              refine s_val rfl (v_pick_f rfl rfl) ?_
              refine s_val rfl (v_move rfl) ?_
              refine s_no rfl rfl rfl rfl ?_
              refine s_val rfl (v_pick_f rfl rfl) ?_
              refine s_val rfl (v_assign rfl) ?_
              refine x_nil ?_
              refine n_then ?_
              refine x_ret ?_
              refine r_then ?_
              refine x_done (.inl rfl) (.cons (r_tmp rfl) .nil) ?_
              refine ⟨_, ⟨?_, rfl⟩, inferInstance⟩
              first | rfl | (exfalso; clear hw; first | omega | simp_all)
          · intro c6
            refine x_skip ?_
            refine n_then ?_
            refine x_seq ?_
            refine x_region ?_
            refine s_val rfl (v_move rfl) ?_
            refine s_val rfl (v_neq rfl rfl) ?_
            refine s_val rfl (v_move rfl) ?_
            refine s_or rfl rfl rfl ?_ ?_
            · intro g8_3
              refine s_no rfl rfl rfl rfl ?_
              refine s_no rfl rfl rfl rfl ?_
              refine s_no rfl rfl rfl rfl ?_
              refine s_no rfl rfl rfl rfl ?_
              refine s_nou rfl rfl rfl ?_
              refine s_nou rfl rfl rfl ?_
              refine s_nou rfl rfl rfl ?_
              refine s_no rfl rfl rfl rfl ?_
              refine s_val rfl (v_pick_t rfl rfl) ?_
              refine s_val rfl (v_move rfl) ?_
              refine s_yes rfl rfl ?_
              refine s_val rfl (v_move rfl) ?_
              refine s_yes rfl rfl ?_
              refine s_val rfl (v_neq rfl rfl) ?_
              refine s_yes rfl rfl ?_
              refine s_val rfl (v_move rfl) ?_
              refine s_or rfl rfl rfl ?_ ?_
              · intro g8_17
                refine s_no rfl rfl rfl rfl ?_
                refine s_no rfl rfl rfl rfl ?_
                refine s_yes rfl rfl ?_
                refine s_val rfl (v_pick_t rfl rfl) ?_
                refine s_val rfl (v_pick_t rfl rfl) ?_
                refine s_val rfl (v_move rfl) ?_
                refine s_yes rfl rfl ?_
                refine s_do rfl (d_call Try.call17 rfl (awake14_spec W0 _)) ?_
                rintro _ _ ⟨rfl, rfl⟩
                refine s_val rfl (v_pick_t rfl rfl) ?_
                refine s_val rfl (v_assign rfl) ?_
                refine x_nil ?_
                refine n_then ?_
                refine x_ret ?_
                refine x_done (.inl rfl) (.cons (r_tmp rfl) .nil) ?_
                refine ⟨_, ⟨?_, rfl⟩, inferInstance⟩
                first | rfl | (exfalso; clear hw; first | omega | simp_all)
              · intro g8_17
                refine s_val rfl (v_loadAll Try.isAgg23 Try.sizeOf23 rfl rfl) ?_
                refine s_yes rfl rfl ?_
                refine s_val rfl (v_loadAll Try.isAgg23 Try.sizeOf23 rfl rfl) ?_
                refine s_yes rfl rfl ?_
                refine s_val rfl (v_eql_agg Try.eqGuardType23 rfl rfl (q_struct Try.underlying23 Try.stoodInHeld23 (qf_scal rfl Try.isAgg4 rfl rfl (q_bool Try.underlying4) (qf_scal rfl Try.isAgg3 rfl rfl (q_int Try.underlying3) (qf_scal rfl Try.isAgg3 rfl rfl (q_int Try.underlying3) qf_nil))))) ?_
                refine s_yes rfl rfl ?_
                refine s_val rfl (v_pick_f rfl rfl) ?_
                refine s_val rfl (v_pick_t rfl rfl) ?_
                refine s_val rfl (v_move rfl) ?_
                refine s_and rfl rfl rfl ?_ ?_
                · intro g8_23
                  refine s_do rfl (d_call Try.call17 rfl (awake14_spec W0 _)) ?_
                  rintro _ _ ⟨rfl, rfl⟩
                  refine s_val rfl (v_pick_t rfl rfl) ?_
                  refine s_val rfl (v_assign rfl) ?_
                  refine x_nil ?_
                  refine n_then ?_
                  refine x_ret ?_
                  refine x_done (.inl rfl) (.cons (r_tmp rfl) .nil) ?_
                  refine ⟨_, ⟨?_, rfl⟩, inferInstance⟩
                  first | rfl | (exfalso; clear hw; first | omega | simp_all)
                · intro g8_23
                  refine s_val rfl (v_pick_f rfl rfl) ?_
                  refine s_val rfl (v_assign rfl) ?_
                  refine x_nil ?_
                  refine n_then ?_
                  refine x_ret ?_
                  refine x_done (.inl rfl) (.cons (r_tmp rfl) .nil) ?_
                  refine ⟨_, ⟨?_, rfl⟩, inferInstance⟩
                  first | rfl | (exfalso; clear hw; first | omega | simp_all)
            · intro g8_3
              refine s_val rfl (v_move rfl) ?_
              refine s_yes rfl rfl ?_
              refine s_val rfl (v_fieldAddr rfl Try.underlying23 rfl Try.sizeOf3 rfl (by first | exact Nat.zero_add _ | rfl)) ?_
              refine s_yes rfl rfl ?_
              refine s_val rfl (v_load Try.isAgg3 rfl (cell_own rfl)) ?_
              refine s_yes rfl rfl ?_
              refine s_val rfl (v_eql rfl rfl) ?_
              refine s_yes rfl rfl ?_
              refine s_val rfl (v_move rfl) ?_
              refine s_and rfl rfl rfl ?_ ?_
              · intro g8_8
                refine s_val rfl (v_fieldAddr rfl Try.underlying23 rfl Try.sizeOf3 rfl (by first | exact Nat.zero_add _ | rfl)) ?_
                refine s_yes rfl rfl ?_
                refine s_val rfl (v_load Try.isAgg3 rfl (cell_own rfl)) ?_
                refine s_yes rfl rfl ?_
                refine s_val rfl (v_eql rfl rfl) ?_
                refine s_yes rfl rfl ?_
                refine s_val rfl (v_pick_t rfl rfl) ?_
                refine s_val rfl (v_pick_f rfl rfl) ?_
                refine s_val rfl (v_move rfl) ?_
                refine s_and rfl rfl rfl ?_ ?_
                · intro g8_14
                  refine s_val rfl (v_move rfl) ?_
                  refine s_yes rfl rfl ?_
                  refine s_val rfl (v_neq rfl rfl) ?_
                  refine s_yes rfl rfl ?_
                  refine s_val rfl (v_move rfl) ?_
                  refine s_or rfl rfl rfl ?_ ?_
                  · intro g8_17
                    refine s_no rfl rfl rfl rfl ?_
                    refine s_no rfl rfl rfl rfl ?_
                    refine s_yes rfl rfl ?_
                    refine s_val rfl (v_pick_t rfl rfl) ?_
                    refine s_val rfl (v_pick_t rfl rfl) ?_
                    refine s_val rfl (v_move rfl) ?_
                    refine s_yes rfl rfl ?_
                    refine s_do rfl (d_call Try.call17 rfl (awake14_spec W0 _)) ?_
                    rintro _ _ ⟨rfl, rfl⟩
                    refine s_val rfl (v_pick_t rfl rfl) ?_
                    refine s_val rfl (v_assign rfl) ?_
                    refine x_nil ?_
                    refine n_then ?_
                    refine x_ret ?_
                    refine x_done (.inl rfl) (.cons (r_tmp rfl) .nil) ?_
                    refine ⟨_, ⟨?_, rfl⟩, inferInstance⟩
                    first | rfl | (exfalso; clear hw; first | omega | simp_all)
                  · intro g8_17
                    refine s_val rfl (v_loadAll Try.isAgg23 Try.sizeOf23 rfl rfl) ?_
                    refine s_yes rfl rfl ?_
                    refine s_val rfl (v_loadAll Try.isAgg23 Try.sizeOf23 rfl rfl) ?_
                    refine s_yes rfl rfl ?_
                    refine s_val rfl (v_eql_agg Try.eqGuardType23 rfl rfl (q_struct Try.underlying23 Try.stoodInHeld23 (qf_scal rfl Try.isAgg4 rfl rfl (q_bool Try.underlying4) (qf_scal rfl Try.isAgg3 rfl rfl (q_int Try.underlying3) (qf_scal rfl Try.isAgg3 rfl rfl (q_int Try.underlying3) qf_nil))))) ?_
                    refine s_yes rfl rfl ?_
                    refine s_val rfl (v_pick_f rfl rfl) ?_
                    refine s_val rfl (v_pick_t rfl rfl) ?_
                    refine s_val rfl (v_move rfl) ?_
                    refine s_and rfl rfl rfl ?_ ?_
                    · intro g8_23
                      refine s_do rfl (d_call Try.call17 rfl (awake14_spec W0 _)) ?_
                      rintro _ _ ⟨rfl, rfl⟩
                      refine s_val rfl (v_pick_t rfl rfl) ?_
                      refine s_val rfl (v_assign rfl) ?_
                      refine x_nil ?_
                      refine n_then ?_
                      refine x_ret ?_
                      refine x_done (.inl rfl) (.cons (r_tmp rfl) .nil) ?_
                      refine ⟨_, ⟨?_, rfl⟩, inferInstance⟩
                      first | rfl | (exfalso; clear hw; first | omega | simp_all)
                    · intro g8_23
                      refine s_val rfl (v_pick_f rfl rfl) ?_
                      refine s_val rfl (v_assign rfl) ?_
                      refine x_nil ?_
                      refine n_then ?_
                      refine x_ret ?_
                      refine x_done (.inl rfl) (.cons (r_tmp rfl) .nil) ?_
                      refine ⟨_, ⟨?_, rfl⟩, inferInstance⟩
                      first | rfl | (exfalso; clear hw; first | omega | simp_all)
                · intro g8_14
                  refine s_no rfl rfl rfl rfl ?_
                  refine s_no rfl rfl rfl rfl ?_
                  refine s_nou rfl rfl rfl ?_
                  refine s_nou rfl rfl rfl ?_
                  refine s_nou rfl rfl rfl ?_
                  refine s_no rfl rfl rfl rfl ?_
                  refine s_val rfl (v_pick_f rfl rfl) ?_
                  refine s_val rfl (v_move rfl) ?_
                  refine s_no rfl rfl rfl rfl ?_
                  refine s_val rfl (v_pick_f rfl rfl) ?_
                  refine s_val rfl (v_assign rfl) ?_
                  refine x_nil ?_
                  refine n_then ?_
                  refine x_ret ?_
                  refine x_done (.inl rfl) (.cons (r_tmp rfl) .nil) ?_
                  refine ⟨_, ⟨?_, rfl⟩, inferInstance⟩
                  first | rfl | (exfalso; clear hw; first | omega | simp_all)
              · intro g8_8
                refine s_no rfl rfl rfl rfl ?_
                refine s_no rfl rfl rfl rfl ?_
                refine s_yes rfl rfl ?_
                refine s_val rfl (v_pick_f rfl rfl) ?_
                refine s_val rfl (v_pick_f rfl rfl) ?_
                refine s_val rfl (v_move rfl) ?_
                refine s_no rfl rfl rfl rfl ?_
                refine s_no rfl rfl rfl rfl ?_
                refine s_no rfl rfl rfl rfl ?_
                refine s_nou rfl rfl rfl ?_
                refine s_nou rfl rfl rfl ?_
                refine s_nou rfl rfl rfl ?_
                refine s_no rfl rfl rfl rfl ?_
                refine s_val rfl (v_pick_f rfl rfl) ?_
                refine s_val rfl (v_move rfl) ?_
                refine s_no rfl rfl rfl rfl ?_
                refine s_val rfl (v_pick_f rfl rfl) ?_
                refine s_val rfl (v_assign rfl) ?_
                refine x_nil ?_
                refine n_then ?_
                refine x_ret ?_
                refine x_done (.inl rfl) (.cons (r_tmp rfl) .nil) ?_
                refine ⟨_, ⟨?_, rfl⟩, inferInstance⟩
                first | rfl | (exfalso; clear hw; first | omega | simp_all)
  · intro g3_3
    refine s_no rfl rfl rfl rfl ?_
    refine s_val rfl (v_pick_f rfl rfl) ?_
    refine s_val rfl (v_move rfl) ?_
    refine s_yes rfl rfl ?_
    refine s_val rfl (v_move rfl) ?_
    refine s_yes rfl rfl ?_
    refine s_val rfl (v_neq rfl rfl) ?_
    refine s_yes rfl rfl ?_
    refine s_val rfl (v_move rfl) ?_
    refine s_and rfl rfl rfl ?_ ?_
    · intro g3_10
      refine s_val rfl (v_move rfl) ?_
      refine s_yes rfl rfl ?_
      refine s_val rfl (v_neq rfl rfl) ?_
      refine s_yes rfl rfl ?_
      refine s_val rfl (v_pick_t rfl rfl) ?_
      refine s_val rfl (v_pick_f rfl rfl) ?_
      refine s_val rfl (v_move rfl) ?_
      refine s_or rfl rfl rfl ?_ ?_
      · intro g3_15
        refine s_no rfl rfl rfl rfl ?_
        refine s_no rfl rfl rfl rfl ?_
        refine s_nou rfl rfl rfl ?_
        refine s_nou rfl rfl rfl ?_
        refine s_nou rfl rfl rfl ?_
        refine s_no rfl rfl rfl rfl ?_
        refine s_val rfl (v_pick_t rfl rfl) ?_
        refine x_nil ?_
        refine n_then ?_
        refine x_ift rfl ?_
        refine x_seq ?_
        refine x_region ?_
        refine s_val rfl (v_assign rfl) ?_
        refine x_nil ?_
        refine n_then ?_
        refine x_ret ?_
        refine r_then ?_
        refine x_done (.inl rfl) (.cons (r_tmp rfl) .nil) ?_
        refine ⟨_, ⟨?_, rfl⟩, inferInstance⟩
        exfalso; clear hw; first | omega | (rcases h3 with h3 | h3 <;> simp_all)
      · intro g3_15
        refine s_val rfl (v_move rfl) ?_
        refine s_yes rfl rfl ?_
        refine s_val rfl (v_neq rfl rfl) ?_
        refine s_yes rfl rfl ?_
        refine s_val rfl (v_move rfl) ?_
        refine s_and rfl rfl rfl ?_ ?_
        · intro g3_18
          refine s_val rfl (v_loadAll Try.isAgg23 Try.sizeOf23 rfl rfl) ?_
          refine s_yes rfl rfl ?_
          refine s_val rfl (v_build Try.underlying23 Try.zeroValue23 (sized_cons Try.sizeOf4 (sized_cons Try.sizeOf3 (sized_cons Try.sizeOf3 sized_nil))) fil_nil) ?_
          refine s_yes rfl rfl ?_
          refine s_val rfl (v_neq_agg Try.eqGuardType23 rfl rfl (q_struct Try.underlying23 Try.stoodInHeld23 (qf_scal rfl Try.isAgg4 rfl rfl (q_bool Try.underlying4) (qf_scal rfl Try.isAgg3 rfl rfl (q_int Try.underlying3) (qf_scal rfl Try.isAgg3 rfl rfl (q_int Try.underlying3) qf_nil))))) ?_
          refine s_yes rfl rfl ?_
          refine s_val rfl (v_pick_t rfl rfl) ?_
          refine s_val rfl (v_pick_f rfl rfl) ?_
          refine x_nil ?_
          refine n_then ?_
          refine x_if rfl ?_ ?_
          · intro c3
            refine x_seq ?_
            refine x_region ?_
            refine s_val rfl (v_assign rfl) ?_
            refine x_nil ?_
            refine n_then ?_
            refine x_ret ?_
            refine r_then ?_
            refine x_done (.inl rfl) (.cons (r_tmp rfl) .nil) ?_
            refine ⟨_, ⟨?_, rfl⟩, inferInstance⟩
            exfalso; clear hw; first | omega | (rcases h3 with h3 | h3 <;> simp_all)
          · intro c3
            refine x_skip ?_
            refine n_then ?_
            refine x_seq ?_
            refine x_region ?_
            refine s_val rfl (v_move rfl) ?_
            refine s_do rfl (d_call Try.call16 rfl (Get_spec W0 _ w hw)) ?_
            rintro _ _ ⟨rfl, rfl⟩
            refine s_val rfl (v_move rfl) ?_
            refine s_val rfl (v_extract rfl rfl) ?_
            refine s_val rfl (v_extract rfl rfl) ?_
            refine s_do rfl (d_allocA Try.zeroValue23) ?_
            rintro _ _ ⟨b6, rfl, rfl⟩
            refine s_do0 (d_storeAll Try.sizeOf23 rfl rfl rfl rfl rfl) ?_
            rintro _ _ rfl
            refine s_val rfl (v_assign rfl) ?_
            refine x_nil ?_
            refine n_then ?_
            refine x_seq ?_
            refine x_seq ?_
            refine x_region ?_
            refine s_val rfl (v_move rfl) ?_
            refine s_val rfl (v_neq rfl rfl) ?_
            refine x_nil ?_
            refine n_then ?_
            refine x_if rfl ?_ ?_
            · intro c6
              refine x_seq ?_
              refine x_region ?_
              refine s_val rfl (v_move rfl) ?_
              refine s_val rfl (v_move rfl) ?_
              refine s_val rfl (v_eql rfl rfl) ?_
              refine s_val rfl (v_move rfl) ?_
              refine s_and rfl rfl rfl ?_ ?_
              · intro g7_4
                refine s_val rfl (v_move rfl) ?_
                refine s_yes rfl rfl ?_
                refine s_val rfl (v_move rfl) ?_
                refine s_yes rfl rfl ?_
                refine s_val rfl (v_eql rfl rfl) ?_
                refine s_val rfl (v_pick_t rfl rfl) ?_
                refine s_val rfl (v_move rfl) ?_
                refine s_and rfl rfl rfl ?_ ?_
                · intro g7_9
                  refine s_do rfl (d_call Try.call17 rfl (awake14_spec W0 _)) ?_
                  rintro _ _ ⟨rfl, rfl⟩
                  refine s_val rfl (v_pick_t rfl rfl) ?_
                  refine s_val rfl (v_assign rfl) ?_
                  refine x_nil ?_
                  refine n_then ?_
                  refine x_ret ?_
                  refine r_then ?_
                  refine x_done (.inl rfl) (.cons (r_tmp rfl) .nil) ?_
                  refine ⟨_, ⟨?_, rfl⟩, inferInstance⟩
                  first | rfl | (exfalso; clear hw; first | omega | simp_all)
                · intro g7_9
                  refine s_val rfl (v_pick_f rfl rfl) ?_
                  refine s_val rfl (v_assign rfl) ?_
                  refine x_nil ?_
                  refine n_then ?_
                  refine x_ret ?_
                  refine r_then ?_
                  refine x_done (.inl rfl) (.cons (r_tmp rfl) .nil) ?_
                  refine ⟨_, ⟨?_, rfl⟩, inferInstance⟩
                  first | rfl | (exfalso; clear hw; first | omega | simp_all)
              · intro g7_4
                refine s_no rfl rfl rfl rfl ?_
                refine s_no rfl rfl rfl rfl ?_
                refine s_val rfl (v_pick_f rfl rfl) ?_
                refine s_val rfl (v_move rfl) ?_
                refine s_no rfl rfl rfl rfl ?_
                refine s_val rfl (v_pick_f rfl rfl) ?_
                refine s_val rfl (v_assign rfl) ?_
                refine x_nil ?_
                refine n_then ?_
                refine x_ret ?_
                refine r_then ?_
                refine x_done (.inl rfl) (.cons (r_tmp rfl) .nil) ?_
                refine ⟨_, ⟨?_, rfl⟩, inferInstance⟩
                first | rfl | (exfalso; clear hw; first | omega | simp_all)
            · intro c6
              refine x_skip ?_
              refine n_then ?_
              refine x_seq ?_
              refine x_region ?_
              refine s_val rfl (v_move rfl) ?_
              refine s_val rfl (v_neq rfl rfl) ?_
              refine s_val rfl (v_move rfl) ?_
              refine s_or rfl rfl rfl ?_ ?_
              · intro g8_3
                refine s_no rfl rfl rfl rfl ?_
                refine s_no rfl rfl rfl rfl ?_
                refine s_no rfl rfl rfl rfl ?_
                refine s_no rfl rfl rfl rfl ?_
                refine s_nou rfl rfl rfl ?_
                refine s_nou rfl rfl rfl ?_
                refine s_nou rfl rfl rfl ?_
                refine s_no rfl rfl rfl rfl ?_
                refine s_val rfl (v_pick_t rfl rfl) ?_
                refine s_val rfl (v_move rfl) ?_
                refine s_yes rfl rfl ?_
                refine s_val rfl (v_move rfl) ?_
                refine s_yes rfl rfl ?_
                refine s_val rfl (v_neq rfl rfl) ?_
                refine s_yes rfl rfl ?_
                refine s_val rfl (v_move rfl) ?_
                refine s_or rfl rfl rfl ?_ ?_
                · intro g8_17
                  refine s_no rfl rfl rfl rfl ?_
                  refine s_no rfl rfl rfl rfl ?_
                  refine s_yes rfl rfl ?_
                  refine s_val rfl (v_pick_t rfl rfl) ?_
                  refine s_val rfl (v_pick_t rfl rfl) ?_
                  refine s_val rfl (v_move rfl) ?_
                  refine s_yes rfl rfl ?_
                  refine s_do rfl (d_call Try.call17 rfl (awake14_spec W0 _)) ?_
                  rintro _ _ ⟨rfl, rfl⟩
                  refine s_val rfl (v_pick_t rfl rfl) ?_
                  refine s_val rfl (v_assign rfl) ?_
                  refine x_nil ?_
                  refine n_then ?_
                  refine x_ret ?_
                  refine x_done (.inl rfl) (.cons (r_tmp rfl) .nil) ?_
                  refine ⟨_, ⟨?_, rfl⟩, inferInstance⟩
                  first | rfl | (exfalso; clear hw; first | omega | simp_all)
                · intro g8_17
                  refine s_val rfl (v_loadAll Try.isAgg23 Try.sizeOf23 rfl rfl) ?_
                  refine s_yes rfl rfl ?_
                  refine s_val rfl (v_loadAll Try.isAgg23 Try.sizeOf23 rfl rfl) ?_
                  refine s_yes rfl rfl ?_
                  refine s_val rfl (v_eql_agg Try.eqGuardType23 rfl rfl (q_struct Try.underlying23 Try.stoodInHeld23 (qf_scal rfl Try.isAgg4 rfl rfl (q_bool Try.underlying4) (qf_scal rfl Try.isAgg3 rfl rfl (q_int Try.underlying3) (qf_scal rfl Try.isAgg3 rfl rfl (q_int Try.underlying3) qf_nil))))) ?_
                  refine s_yes rfl rfl ?_
                  refine s_val rfl (v_pick_f rfl rfl) ?_
                  refine s_val rfl (v_pick_t rfl rfl) ?_
                  refine s_val rfl (v_move rfl) ?_
                  refine s_and rfl rfl rfl ?_ ?_
                  · intro g8_23
                    refine s_do rfl (d_call Try.call17 rfl (awake14_spec W0 _)) ?_
                    rintro _ _ ⟨rfl, rfl⟩
                    refine s_val rfl (v_pick_t rfl rfl) ?_
                    refine s_val rfl (v_assign rfl) ?_
                    refine x_nil ?_
                    refine n_then ?_
                    refine x_ret ?_
                    refine x_done (.inl rfl) (.cons (r_tmp rfl) .nil) ?_
                    refine ⟨_, ⟨?_, rfl⟩, inferInstance⟩
                    first | rfl | (exfalso; clear hw; first | omega | simp_all)
                  · intro g8_23
                    refine s_val rfl (v_pick_f rfl rfl) ?_
                    refine s_val rfl (v_assign rfl) ?_
                    refine x_nil ?_
                    refine n_then ?_
                    refine x_ret ?_
                    refine x_done (.inl rfl) (.cons (r_tmp rfl) .nil) ?_
                    refine ⟨_, ⟨?_, rfl⟩, inferInstance⟩
                    first | rfl | (exfalso; clear hw; first | omega | simp_all)
              · intro g8_3
                refine s_val rfl (v_move rfl) ?_
                refine s_yes rfl rfl ?_
                refine s_val rfl (v_fieldAddr rfl Try.underlying23 rfl Try.sizeOf3 rfl (by first | exact Nat.zero_add _ | rfl)) ?_
                refine s_yes rfl rfl ?_
                refine s_val rfl (v_load Try.isAgg3 rfl (cell_own rfl)) ?_
                refine s_yes rfl rfl ?_
                refine s_val rfl (v_eql rfl rfl) ?_
                refine s_yes rfl rfl ?_
                refine s_val rfl (v_move rfl) ?_
                refine s_and rfl rfl rfl ?_ ?_
                · intro g8_8
                  refine s_val rfl (v_fieldAddr rfl Try.underlying23 rfl Try.sizeOf3 rfl (by first | exact Nat.zero_add _ | rfl)) ?_
                  refine s_yes rfl rfl ?_
                  refine s_val rfl (v_load Try.isAgg3 rfl (cell_own rfl)) ?_
                  refine s_yes rfl rfl ?_
                  refine s_val rfl (v_eql rfl rfl) ?_
                  refine s_yes rfl rfl ?_
                  refine s_val rfl (v_pick_t rfl rfl) ?_
                  refine s_val rfl (v_pick_f rfl rfl) ?_
                  refine s_val rfl (v_move rfl) ?_
                  refine s_and rfl rfl rfl ?_ ?_
                  · intro g8_14
                    refine s_val rfl (v_move rfl) ?_
                    refine s_yes rfl rfl ?_
                    refine s_val rfl (v_neq rfl rfl) ?_
                    refine s_yes rfl rfl ?_
                    refine s_val rfl (v_move rfl) ?_
                    refine s_or rfl rfl rfl ?_ ?_
                    · intro g8_17
                      refine s_no rfl rfl rfl rfl ?_
                      refine s_no rfl rfl rfl rfl ?_
                      refine s_yes rfl rfl ?_
                      refine s_val rfl (v_pick_t rfl rfl) ?_
                      refine s_val rfl (v_pick_t rfl rfl) ?_
                      refine s_val rfl (v_move rfl) ?_
                      refine s_yes rfl rfl ?_
                      refine s_do rfl (d_call Try.call17 rfl (awake14_spec W0 _)) ?_
                      rintro _ _ ⟨rfl, rfl⟩
                      refine s_val rfl (v_pick_t rfl rfl) ?_
                      refine s_val rfl (v_assign rfl) ?_
                      refine x_nil ?_
                      refine n_then ?_
                      refine x_ret ?_
                      refine x_done (.inl rfl) (.cons (r_tmp rfl) .nil) ?_
                      refine ⟨_, ⟨?_, rfl⟩, inferInstance⟩
                      first | rfl | (exfalso; clear hw; first | omega | simp_all)
                    · intro g8_17
                      refine s_val rfl (v_loadAll Try.isAgg23 Try.sizeOf23 rfl rfl) ?_
                      refine s_yes rfl rfl ?_
                      refine s_val rfl (v_loadAll Try.isAgg23 Try.sizeOf23 rfl rfl) ?_
                      refine s_yes rfl rfl ?_
                      refine s_val rfl (v_eql_agg Try.eqGuardType23 rfl rfl (q_struct Try.underlying23 Try.stoodInHeld23 (qf_scal rfl Try.isAgg4 rfl rfl (q_bool Try.underlying4) (qf_scal rfl Try.isAgg3 rfl rfl (q_int Try.underlying3) (qf_scal rfl Try.isAgg3 rfl rfl (q_int Try.underlying3) qf_nil))))) ?_
                      refine s_yes rfl rfl ?_
                      refine s_val rfl (v_pick_f rfl rfl) ?_
                      refine s_val rfl (v_pick_t rfl rfl) ?_
                      refine s_val rfl (v_move rfl) ?_
                      refine s_and rfl rfl rfl ?_ ?_
                      · intro g8_23
                        refine s_do rfl (d_call Try.call17 rfl (awake14_spec W0 _)) ?_
                        rintro _ _ ⟨rfl, rfl⟩
                        refine s_val rfl (v_pick_t rfl rfl) ?_
                        refine s_val rfl (v_assign rfl) ?_
                        refine x_nil ?_
                        refine n_then ?_
                        refine x_ret ?_
                        refine x_done (.inl rfl) (.cons (r_tmp rfl) .nil) ?_
                        refine ⟨_, ⟨?_, rfl⟩, inferInstance⟩
                        first | rfl | (exfalso; clear hw; first | omega | simp_all)
                      · intro g8_23
                        refine s_val rfl (v_pick_f rfl rfl) ?_
                        refine s_val rfl (v_assign rfl) ?_
                        refine x_nil ?_
                        refine n_then ?_
                        refine x_ret ?_
                        refine x_done (.inl rfl) (.cons (r_tmp rfl) .nil) ?_
                        refine ⟨_, ⟨?_, rfl⟩, inferInstance⟩
                        first | rfl | (exfalso; clear hw; first | omega | simp_all)
                  · intro g8_14
                    refine s_no rfl rfl rfl rfl ?_
                    refine s_no rfl rfl rfl rfl ?_
                    refine s_nou rfl rfl rfl ?_
                    refine s_nou rfl rfl rfl ?_
                    refine s_nou rfl rfl rfl ?_
                    refine s_no rfl rfl rfl rfl ?_
                    refine s_val rfl (v_pick_f rfl rfl) ?_
                    refine s_val rfl (v_move rfl) ?_
                    refine s_no rfl rfl rfl rfl ?_
                    refine s_val rfl (v_pick_f rfl rfl) ?_
                    refine s_val rfl (v_assign rfl) ?_
                    refine x_nil ?_
                    refine n_then ?_
                    refine x_ret ?_
                    refine x_done (.inl rfl) (.cons (r_tmp rfl) .nil) ?_
                    refine ⟨_, ⟨?_, rfl⟩, inferInstance⟩
                    first | rfl | (exfalso; clear hw; first | omega | simp_all)
                · intro g8_8
                  refine s_no rfl rfl rfl rfl ?_
                  refine s_no rfl rfl rfl rfl ?_
                  refine s_yes rfl rfl ?_
                  refine s_val rfl (v_pick_f rfl rfl) ?_
                  refine s_val rfl (v_pick_f rfl rfl) ?_
                  refine s_val rfl (v_move rfl) ?_
                  refine s_no rfl rfl rfl rfl ?_
                  refine s_no rfl rfl rfl rfl ?_
                  refine s_no rfl rfl rfl rfl ?_
                  refine s_nou rfl rfl rfl ?_
                  refine s_nou rfl rfl rfl ?_
                  refine s_nou rfl rfl rfl ?_
                  refine s_no rfl rfl rfl rfl ?_
                  refine s_val rfl (v_pick_f rfl rfl) ?_
                  refine s_val rfl (v_move rfl) ?_
                  refine s_no rfl rfl rfl rfl ?_
                  refine s_val rfl (v_pick_f rfl rfl) ?_
                  refine s_val rfl (v_assign rfl) ?_
                  refine x_nil ?_
                  refine n_then ?_
                  refine x_ret ?_
                  refine x_done (.inl rfl) (.cons (r_tmp rfl) .nil) ?_
                  refine ⟨_, ⟨?_, rfl⟩, inferInstance⟩
                  first | rfl | (exfalso; clear hw; first | omega | simp_all)
        · intro g3_18
          refine s_no rfl rfl rfl rfl ?_
          refine s_no rfl rfl rfl rfl ?_
          refine s_yes rfl rfl ?_
          refine s_val rfl (v_pick_f rfl rfl) ?_
          refine s_val rfl (v_pick_f rfl rfl) ?_
          refine x_nil ?_
          refine n_then ?_
          refine x_iff rfl ?_
          refine x_skip ?_
          refine n_then ?_
          refine x_seq ?_
          refine x_region ?_
          refine s_val rfl (v_move rfl) ?_
          refine s_do rfl (d_call Try.call16 rfl (Get_spec W0 _ w hw)) ?_
          rintro _ _ ⟨rfl, rfl⟩
          refine s_val rfl (v_move rfl) ?_
          refine s_val rfl (v_extract rfl rfl) ?_
          refine s_val rfl (v_extract rfl rfl) ?_
          refine s_do rfl (d_allocA Try.zeroValue23) ?_
          rintro _ _ ⟨b7, rfl, rfl⟩
          refine s_do0 (d_storeAll Try.sizeOf23 rfl rfl rfl rfl rfl) ?_
          rintro _ _ rfl
          refine s_val rfl (v_assign rfl) ?_
          refine x_nil ?_
          refine n_then ?_
          refine x_seq ?_
          refine x_seq ?_
          refine x_region ?_
          refine s_val rfl (v_move rfl) ?_
          refine s_val rfl (v_neq rfl rfl) ?_
          refine x_nil ?_
          refine n_then ?_
          refine x_if rfl ?_ ?_
          · intro c6
            refine x_seq ?_
            refine x_region ?_
            refine s_val rfl (v_move rfl) ?_
            refine s_val rfl (v_move rfl) ?_
            refine s_val rfl (v_eql rfl rfl) ?_
            refine s_val rfl (v_move rfl) ?_
            refine s_and rfl rfl rfl ?_ ?_
            · intro g7_4
              refine s_val rfl (v_move rfl) ?_
              refine s_yes rfl rfl ?_
              refine s_val rfl (v_move rfl) ?_
              refine s_yes rfl rfl ?_
              refine s_val rfl (v_eql rfl rfl) ?_
              refine s_val rfl (v_pick_t rfl rfl) ?_
              refine s_val rfl (v_move rfl) ?_
              refine s_and rfl rfl rfl ?_ ?_
              · intro g7_9
                refine s_do rfl (d_call Try.call17 rfl (awake14_spec W0 _)) ?_
                rintro _ _ ⟨rfl, rfl⟩
                refine s_val rfl (v_pick_t rfl rfl) ?_
                refine s_val rfl (v_assign rfl) ?_
                refine x_nil ?_
                refine n_then ?_
                refine x_ret ?_
                refine r_then ?_
                refine x_done (.inl rfl) (.cons (r_tmp rfl) .nil) ?_
                refine ⟨_, ⟨?_, rfl⟩, inferInstance⟩
                first | rfl | (exfalso; clear hw; first | omega | simp_all)
              · intro g7_9
                refine s_val rfl (v_pick_f rfl rfl) ?_
                refine s_val rfl (v_assign rfl) ?_
                refine x_nil ?_
                refine n_then ?_
                refine x_ret ?_
                refine r_then ?_
                refine x_done (.inl rfl) (.cons (r_tmp rfl) .nil) ?_
                refine ⟨_, ⟨?_, rfl⟩, inferInstance⟩
                first | rfl | (exfalso; clear hw; first | omega | simp_all)
            · intro g7_4
              refine s_no rfl rfl rfl rfl ?_
              refine s_no rfl rfl rfl rfl ?_
              refine s_val rfl (v_pick_f rfl rfl) ?_
              refine s_val rfl (v_move rfl) ?_
              refine s_no rfl rfl rfl rfl ?_
              refine s_val rfl (v_pick_f rfl rfl) ?_
              refine s_val rfl (v_assign rfl) ?_
              refine x_nil ?_
              refine n_then ?_
              refine x_ret ?_
              refine r_then ?_
              refine x_done (.inl rfl) (.cons (r_tmp rfl) .nil) ?_
              refine ⟨_, ⟨?_, rfl⟩, inferInstance⟩
              first | rfl | (exfalso; clear hw; first | omega | simp_all)
          · intro c6
            refine x_skip ?_
            refine n_then ?_
            refine x_seq ?_
            refine x_region ?_
            refine s_val rfl (v_move rfl) ?_
            refine s_val rfl (v_neq rfl rfl) ?_
            refine s_val rfl (v_move rfl) ?_
            refine s_or rfl rfl rfl ?_ ?_
            · intro g8_3
              refine s_no rfl rfl rfl rfl ?_
              refine s_no rfl rfl rfl rfl ?_
              refine s_no rfl rfl rfl rfl ?_
              refine s_no rfl rfl rfl rfl ?_
              refine s_nou rfl rfl rfl ?_
              refine s_nou rfl rfl rfl ?_
              refine s_nou rfl rfl rfl ?_
              refine s_no rfl rfl rfl rfl ?_
              refine s_val rfl (v_pick_t rfl rfl) ?_
              refine s_val rfl (v_move rfl) ?_
              refine s_yes rfl rfl ?_
              refine s_val rfl (v_move rfl) ?_
              refine s_yes rfl rfl ?_
              refine s_val rfl (v_neq rfl rfl) ?_
              refine s_yes rfl rfl ?_
              refine s_val rfl (v_move rfl) ?_
              refine s_or rfl rfl rfl ?_ ?_
              · intro g8_17
                refine s_no rfl rfl rfl rfl ?_
                refine s_no rfl rfl rfl rfl ?_
                refine s_yes rfl rfl ?_
                refine s_val rfl (v_pick_t rfl rfl) ?_
                refine s_val rfl (v_pick_t rfl rfl) ?_
                refine s_val rfl (v_move rfl) ?_
                refine s_yes rfl rfl ?_
                refine s_do rfl (d_call Try.call17 rfl (awake14_spec W0 _)) ?_
                rintro _ _ ⟨rfl, rfl⟩
                refine s_val rfl (v_pick_t rfl rfl) ?_
                refine s_val rfl (v_assign rfl) ?_
                refine x_nil ?_
                refine n_then ?_
                refine x_ret ?_
                refine x_done (.inl rfl) (.cons (r_tmp rfl) .nil) ?_
                refine ⟨_, ⟨?_, rfl⟩, inferInstance⟩
                first | rfl | (exfalso; clear hw; first | omega | simp_all)
              · intro g8_17
                refine s_val rfl (v_loadAll Try.isAgg23 Try.sizeOf23 rfl rfl) ?_
                refine s_yes rfl rfl ?_
                refine s_val rfl (v_loadAll Try.isAgg23 Try.sizeOf23 rfl rfl) ?_
                refine s_yes rfl rfl ?_
                refine s_val rfl (v_eql_agg Try.eqGuardType23 rfl rfl (q_struct Try.underlying23 Try.stoodInHeld23 (qf_scal rfl Try.isAgg4 rfl rfl (q_bool Try.underlying4) (qf_scal rfl Try.isAgg3 rfl rfl (q_int Try.underlying3) (qf_scal rfl Try.isAgg3 rfl rfl (q_int Try.underlying3) qf_nil))))) ?_
                refine s_yes rfl rfl ?_
                refine s_val rfl (v_pick_f rfl rfl) ?_
                refine s_val rfl (v_pick_t rfl rfl) ?_
                refine s_val rfl (v_move rfl) ?_
                refine s_and rfl rfl rfl ?_ ?_
                · intro g8_23
                  refine s_do rfl (d_call Try.call17 rfl (awake14_spec W0 _)) ?_
                  rintro _ _ ⟨rfl, rfl⟩
                  refine s_val rfl (v_pick_t rfl rfl) ?_
                  refine s_val rfl (v_assign rfl) ?_
                  refine x_nil ?_
                  refine n_then ?_
                  refine x_ret ?_
                  refine x_done (.inl rfl) (.cons (r_tmp rfl) .nil) ?_
                  refine ⟨_, ⟨?_, rfl⟩, inferInstance⟩
                  first | rfl | (exfalso; clear hw; first | omega | simp_all)
                · intro g8_23
                  refine s_val rfl (v_pick_f rfl rfl) ?_
                  refine s_val rfl (v_assign rfl) ?_
                  refine x_nil ?_
                  refine n_then ?_
                  refine x_ret ?_
                  refine x_done (.inl rfl) (.cons (r_tmp rfl) .nil) ?_
                  refine ⟨_, ⟨?_, rfl⟩, inferInstance⟩
                  first | rfl | (exfalso; clear hw; first | omega | simp_all)
            · intro g8_3
              refine s_val rfl (v_move rfl) ?_
              refine s_yes rfl rfl ?_
              refine s_val rfl (v_fieldAddr rfl Try.underlying23 rfl Try.sizeOf3 rfl (by first | exact Nat.zero_add _ | rfl)) ?_
              refine s_yes rfl rfl ?_
              refine s_val rfl (v_load Try.isAgg3 rfl (cell_own rfl)) ?_
              refine s_yes rfl rfl ?_
              refine s_val rfl (v_eql rfl rfl) ?_
              refine s_yes rfl rfl ?_
              refine s_val rfl (v_move rfl) ?_
              refine s_and rfl rfl rfl ?_ ?_
              · intro g8_8
                refine s_val rfl (v_fieldAddr rfl Try.underlying23 rfl Try.sizeOf3 rfl (by first | exact Nat.zero_add _ | rfl)) ?_
                refine s_yes rfl rfl ?_
                refine s_val rfl (v_load Try.isAgg3 rfl (cell_own rfl)) ?_
                refine s_yes rfl rfl ?_
                refine s_val rfl (v_eql rfl rfl) ?_
                refine s_yes rfl rfl ?_
                refine s_val rfl (v_pick_t rfl rfl) ?_
                refine s_val rfl (v_pick_f rfl rfl) ?_
                refine s_val rfl (v_move rfl) ?_
                refine s_and rfl rfl rfl ?_ ?_
                · intro g8_14
                  refine s_val rfl (v_move rfl) ?_
                  refine s_yes rfl rfl ?_
                  refine s_val rfl (v_neq rfl rfl) ?_
                  refine s_yes rfl rfl ?_
                  refine s_val rfl (v_move rfl) ?_
                  refine s_or rfl rfl rfl ?_ ?_
                  · intro g8_17
                    refine s_no rfl rfl rfl rfl ?_
                    refine s_no rfl rfl rfl rfl ?_
                    refine s_yes rfl rfl ?_
                    refine s_val rfl (v_pick_t rfl rfl) ?_
                    refine s_val rfl (v_pick_t rfl rfl) ?_
                    refine s_val rfl (v_move rfl) ?_
                    refine s_yes rfl rfl ?_
                    refine s_do rfl (d_call Try.call17 rfl (awake14_spec W0 _)) ?_
                    rintro _ _ ⟨rfl, rfl⟩
                    refine s_val rfl (v_pick_t rfl rfl) ?_
                    refine s_val rfl (v_assign rfl) ?_
                    refine x_nil ?_
                    refine n_then ?_
                    refine x_ret ?_
                    refine x_done (.inl rfl) (.cons (r_tmp rfl) .nil) ?_
                    refine ⟨_, ⟨?_, rfl⟩, inferInstance⟩
                    first | rfl | (exfalso; clear hw; first | omega | simp_all)
                  · intro g8_17
                    refine s_val rfl (v_loadAll Try.isAgg23 Try.sizeOf23 rfl rfl) ?_
                    refine s_yes rfl rfl ?_
                    refine s_val rfl (v_loadAll Try.isAgg23 Try.sizeOf23 rfl rfl) ?_
                    refine s_yes rfl rfl ?_
                    refine s_val rfl (v_eql_agg Try.eqGuardType23 rfl rfl (q_struct Try.underlying23 Try.stoodInHeld23 (qf_scal rfl Try.isAgg4 rfl rfl (q_bool Try.underlying4) (qf_scal rfl Try.isAgg3 rfl rfl (q_int Try.underlying3) (qf_scal rfl Try.isAgg3 rfl rfl (q_int Try.underlying3) qf_nil))))) ?_
                    refine s_yes rfl rfl ?_
                    refine s_val rfl (v_pick_f rfl rfl) ?_
                    refine s_val rfl (v_pick_t rfl rfl) ?_
                    refine s_val rfl (v_move rfl) ?_
                    refine s_and rfl rfl rfl ?_ ?_
                    · intro g8_23
                      refine s_do rfl (d_call Try.call17 rfl (awake14_spec W0 _)) ?_
                      rintro _ _ ⟨rfl, rfl⟩
                      refine s_val rfl (v_pick_t rfl rfl) ?_
                      refine s_val rfl (v_assign rfl) ?_
                      refine x_nil ?_
                      refine n_then ?_
                      refine x_ret ?_
                      refine x_done (.inl rfl) (.cons (r_tmp rfl) .nil) ?_
                      refine ⟨_, ⟨?_, rfl⟩, inferInstance⟩
                      first | rfl | (exfalso; clear hw; first | omega | simp_all)
                    · intro g8_23
                      refine s_val rfl (v_pick_f rfl rfl) ?_
                      refine s_val rfl (v_assign rfl) ?_
                      refine x_nil ?_
                      refine n_then ?_
                      refine x_ret ?_
                      refine x_done (.inl rfl) (.cons (r_tmp rfl) .nil) ?_
                      refine ⟨_, ⟨?_, rfl⟩, inferInstance⟩
                      first | rfl | (exfalso; clear hw; first | omega | simp_all)
                · intro g8_14
                  refine s_no rfl rfl rfl rfl ?_
                  refine s_no rfl rfl rfl rfl ?_
                  refine s_nou rfl rfl rfl ?_
                  refine s_nou rfl rfl rfl ?_
                  refine s_nou rfl rfl rfl ?_
                  refine s_no rfl rfl rfl rfl ?_
                  refine s_val rfl (v_pick_f rfl rfl) ?_
                  refine s_val rfl (v_move rfl) ?_
                  refine s_no rfl rfl rfl rfl ?_
                  refine s_val rfl (v_pick_f rfl rfl) ?_
                  refine s_val rfl (v_assign rfl) ?_
                  refine x_nil ?_
                  refine n_then ?_
                  refine x_ret ?_
                  refine x_done (.inl rfl) (.cons (r_tmp rfl) .nil) ?_
                  refine ⟨_, ⟨?_, rfl⟩, inferInstance⟩
                  first | rfl | (exfalso; clear hw; first | omega | simp_all)
              · intro g8_8
                refine s_no rfl rfl rfl rfl ?_
                refine s_no rfl rfl rfl rfl ?_
                refine s_yes rfl rfl ?_
                refine s_val rfl (v_pick_f rfl rfl) ?_
                refine s_val rfl (v_pick_f rfl rfl) ?_
                refine s_val rfl (v_move rfl) ?_
                refine s_no rfl rfl rfl rfl ?_
                refine s_no rfl rfl rfl rfl ?_
                refine s_no rfl rfl rfl rfl ?_
                refine s_nou rfl rfl rfl ?_
                refine s_nou rfl rfl rfl ?_
                refine s_nou rfl rfl rfl ?_
                refine s_no rfl rfl rfl rfl ?_
                refine s_val rfl (v_pick_f rfl rfl) ?_
                refine s_val rfl (v_move rfl) ?_
                refine s_no rfl rfl rfl rfl ?_
                refine s_val rfl (v_pick_f rfl rfl) ?_
                refine s_val rfl (v_assign rfl) ?_
                refine x_nil ?_
                refine n_then ?_
                refine x_ret ?_
                refine x_done (.inl rfl) (.cons (r_tmp rfl) .nil) ?_
                refine ⟨_, ⟨?_, rfl⟩, inferInstance⟩
                first | rfl | (exfalso; clear hw; first | omega | simp_all)
    · intro g3_10
      refine s_no rfl rfl rfl rfl ?_
      refine s_yes rfl rfl ?_
      refine s_val rfl (v_pick_f rfl rfl) ?_
      refine s_val rfl (v_pick_f rfl rfl) ?_
      refine s_val rfl (v_move rfl) ?_
      refine s_yes rfl rfl ?_
      refine s_val rfl (v_move rfl) ?_
      refine s_yes rfl rfl ?_
      refine s_val rfl (v_neq rfl rfl) ?_
      refine s_yes rfl rfl ?_
      refine s_val rfl (v_move rfl) ?_
      refine s_and rfl rfl rfl ?_ ?_
      · intro g3_18
        refine s_val rfl (v_loadAll Try.isAgg23 Try.sizeOf23 rfl rfl) ?_
        refine s_yes rfl rfl ?_
        refine s_val rfl (v_build Try.underlying23 Try.zeroValue23 (sized_cons Try.sizeOf4 (sized_cons Try.sizeOf3 (sized_cons Try.sizeOf3 sized_nil))) fil_nil) ?_
        refine s_yes rfl rfl ?_
        refine s_val rfl (v_neq_agg Try.eqGuardType23 rfl rfl (q_struct Try.underlying23 Try.stoodInHeld23 (qf_scal rfl Try.isAgg4 rfl rfl (q_bool Try.underlying4) (qf_scal rfl Try.isAgg3 rfl rfl (q_int Try.underlying3) (qf_scal rfl Try.isAgg3 rfl rfl (q_int Try.underlying3) qf_nil))))) ?_
        refine s_yes rfl rfl ?_
        refine s_val rfl (v_pick_t rfl rfl) ?_
        refine s_val rfl (v_pick_f rfl rfl) ?_
        refine x_nil ?_
        refine n_then ?_
        refine x_if rfl ?_ ?_
        · intro c3
          refine x_seq ?_
          refine x_region ?_
          refine s_val rfl (v_assign rfl) ?_
          refine x_nil ?_
          refine n_then ?_
          refine x_ret ?_
          refine r_then ?_
          refine x_done (.inl rfl) (.cons (r_tmp rfl) .nil) ?_
          refine ⟨_, ⟨?_, rfl⟩, inferInstance⟩
          exfalso; clear hw; first | omega | (rcases h3 with h3 | h3 <;> simp_all)
        · intro c3
          refine x_skip ?_
          refine n_then ?_
          refine x_seq ?_
          refine x_region ?_
          refine s_val rfl (v_move rfl) ?_
          refine s_do rfl (d_call Try.call16 rfl (Get_spec W0 _ w hw)) ?_
          rintro _ _ ⟨rfl, rfl⟩
          refine s_val rfl (v_move rfl) ?_
          refine s_val rfl (v_extract rfl rfl) ?_
          refine s_val rfl (v_extract rfl rfl) ?_
          refine s_do rfl (d_allocA Try.zeroValue23) ?_
          rintro _ _ ⟨b8, rfl, rfl⟩
          refine s_do0 (d_storeAll Try.sizeOf23 rfl rfl rfl rfl rfl) ?_
          rintro _ _ rfl
          refine s_val rfl (v_assign rfl) ?_
          refine x_nil ?_
          refine n_then ?_
          refine x_seq ?_
          refine x_seq ?_
          refine x_region ?_
          refine s_val rfl (v_move rfl) ?_
          refine s_val rfl (v_neq rfl rfl) ?_
          refine x_nil ?_
          refine n_then ?_
          refine x_if rfl ?_ ?_
          · intro c6
            refine x_seq ?_
            refine x_region ?_
            refine s_val rfl (v_move rfl) ?_
            refine s_val rfl (v_move rfl) ?_
            refine s_val rfl (v_eql rfl rfl) ?_
            refine s_val rfl (v_move rfl) ?_
            refine s_and rfl rfl rfl ?_ ?_
            · intro g7_4
              refine s_val rfl (v_move rfl) ?_
              refine s_yes rfl rfl ?_
              refine s_val rfl (v_move rfl) ?_
              refine s_yes rfl rfl ?_
              refine s_val rfl (v_eql rfl rfl) ?_
              refine s_val rfl (v_pick_t rfl rfl) ?_
              refine s_val rfl (v_move rfl) ?_
              refine s_and rfl rfl rfl ?_ ?_
              · intro g7_9
                refine s_do rfl (d_call Try.call17 rfl (awake14_spec W0 _)) ?_
                rintro _ _ ⟨rfl, rfl⟩
                refine s_val rfl (v_pick_t rfl rfl) ?_
                refine s_val rfl (v_assign rfl) ?_
                refine x_nil ?_
                refine n_then ?_
                refine x_ret ?_
                refine r_then ?_
                refine x_done (.inl rfl) (.cons (r_tmp rfl) .nil) ?_
                refine ⟨_, ⟨?_, rfl⟩, inferInstance⟩
                first | rfl | (exfalso; clear hw; first | omega | simp_all)
              · intro g7_9
                refine s_val rfl (v_pick_f rfl rfl) ?_
                refine s_val rfl (v_assign rfl) ?_
                refine x_nil ?_
                refine n_then ?_
                refine x_ret ?_
                refine r_then ?_
                refine x_done (.inl rfl) (.cons (r_tmp rfl) .nil) ?_
                refine ⟨_, ⟨?_, rfl⟩, inferInstance⟩
                first | rfl | (exfalso; clear hw; first | omega | simp_all)
            · intro g7_4
              refine s_no rfl rfl rfl rfl ?_
              refine s_no rfl rfl rfl rfl ?_
              refine s_val rfl (v_pick_f rfl rfl) ?_
              refine s_val rfl (v_move rfl) ?_
              refine s_no rfl rfl rfl rfl ?_
              refine s_val rfl (v_pick_f rfl rfl) ?_
              refine s_val rfl (v_assign rfl) ?_
              refine x_nil ?_
              refine n_then ?_
              refine x_ret ?_
              refine r_then ?_
              refine x_done (.inl rfl) (.cons (r_tmp rfl) .nil) ?_
              refine ⟨_, ⟨?_, rfl⟩, inferInstance⟩
              first | rfl | (exfalso; clear hw; first | omega | simp_all)
          · intro c6
            refine x_skip ?_
            refine n_then ?_
            refine x_seq ?_
            refine x_region ?_
            refine s_val rfl (v_move rfl) ?_
            refine s_val rfl (v_neq rfl rfl) ?_
            refine s_val rfl (v_move rfl) ?_
            refine s_or rfl rfl rfl ?_ ?_
            · intro g8_3
              refine s_no rfl rfl rfl rfl ?_
              refine s_no rfl rfl rfl rfl ?_
              refine s_no rfl rfl rfl rfl ?_
              refine s_no rfl rfl rfl rfl ?_
              refine s_nou rfl rfl rfl ?_
              refine s_nou rfl rfl rfl ?_
              refine s_nou rfl rfl rfl ?_
              refine s_no rfl rfl rfl rfl ?_
              refine s_val rfl (v_pick_t rfl rfl) ?_
              refine s_val rfl (v_move rfl) ?_
              refine s_yes rfl rfl ?_
              refine s_val rfl (v_move rfl) ?_
              refine s_yes rfl rfl ?_
              refine s_val rfl (v_neq rfl rfl) ?_
              refine s_yes rfl rfl ?_
              refine s_val rfl (v_move rfl) ?_
              refine s_or rfl rfl rfl ?_ ?_
              · intro g8_17
                refine s_no rfl rfl rfl rfl ?_
                refine s_no rfl rfl rfl rfl ?_
                refine s_yes rfl rfl ?_
                refine s_val rfl (v_pick_t rfl rfl) ?_
                refine s_val rfl (v_pick_t rfl rfl) ?_
                refine s_val rfl (v_move rfl) ?_
                refine s_yes rfl rfl ?_
                refine s_do rfl (d_call Try.call17 rfl (awake14_spec W0 _)) ?_
                rintro _ _ ⟨rfl, rfl⟩
                refine s_val rfl (v_pick_t rfl rfl) ?_
                refine s_val rfl (v_assign rfl) ?_
                refine x_nil ?_
                refine n_then ?_
                refine x_ret ?_
                refine x_done (.inl rfl) (.cons (r_tmp rfl) .nil) ?_
                refine ⟨_, ⟨?_, rfl⟩, inferInstance⟩
                first | rfl | (exfalso; clear hw; first | omega | simp_all)
              · intro g8_17
                refine s_val rfl (v_loadAll Try.isAgg23 Try.sizeOf23 rfl rfl) ?_
                refine s_yes rfl rfl ?_
                refine s_val rfl (v_loadAll Try.isAgg23 Try.sizeOf23 rfl rfl) ?_
                refine s_yes rfl rfl ?_
                refine s_val rfl (v_eql_agg Try.eqGuardType23 rfl rfl (q_struct Try.underlying23 Try.stoodInHeld23 (qf_scal rfl Try.isAgg4 rfl rfl (q_bool Try.underlying4) (qf_scal rfl Try.isAgg3 rfl rfl (q_int Try.underlying3) (qf_scal rfl Try.isAgg3 rfl rfl (q_int Try.underlying3) qf_nil))))) ?_
                refine s_yes rfl rfl ?_
                refine s_val rfl (v_pick_f rfl rfl) ?_
                refine s_val rfl (v_pick_t rfl rfl) ?_
                refine s_val rfl (v_move rfl) ?_
                refine s_and rfl rfl rfl ?_ ?_
                · intro g8_23
                  refine s_do rfl (d_call Try.call17 rfl (awake14_spec W0 _)) ?_
                  rintro _ _ ⟨rfl, rfl⟩
                  refine s_val rfl (v_pick_t rfl rfl) ?_
                  refine s_val rfl (v_assign rfl) ?_
                  refine x_nil ?_
                  refine n_then ?_
                  refine x_ret ?_
                  refine x_done (.inl rfl) (.cons (r_tmp rfl) .nil) ?_
                  refine ⟨_, ⟨?_, rfl⟩, inferInstance⟩
                  first | rfl | (exfalso; clear hw; first | omega | simp_all)
                · intro g8_23
                  refine s_val rfl (v_pick_f rfl rfl) ?_
                  refine s_val rfl (v_assign rfl) ?_
                  refine x_nil ?_
                  refine n_then ?_
                  refine x_ret ?_
                  refine x_done (.inl rfl) (.cons (r_tmp rfl) .nil) ?_
                  refine ⟨_, ⟨?_, rfl⟩, inferInstance⟩
                  first | rfl | (exfalso; clear hw; first | omega | simp_all)
            · intro g8_3
              refine s_val rfl (v_move rfl) ?_
              refine s_yes rfl rfl ?_
              refine s_val rfl (v_fieldAddr rfl Try.underlying23 rfl Try.sizeOf3 rfl (by first | exact Nat.zero_add _ | rfl)) ?_
              refine s_yes rfl rfl ?_
              refine s_val rfl (v_load Try.isAgg3 rfl (cell_own rfl)) ?_
              refine s_yes rfl rfl ?_
              refine s_val rfl (v_eql rfl rfl) ?_
              refine s_yes rfl rfl ?_
              refine s_val rfl (v_move rfl) ?_
              refine s_and rfl rfl rfl ?_ ?_
              · intro g8_8
                refine s_val rfl (v_fieldAddr rfl Try.underlying23 rfl Try.sizeOf3 rfl (by first | exact Nat.zero_add _ | rfl)) ?_
                refine s_yes rfl rfl ?_
                refine s_val rfl (v_load Try.isAgg3 rfl (cell_own rfl)) ?_
                refine s_yes rfl rfl ?_
                refine s_val rfl (v_eql rfl rfl) ?_
                refine s_yes rfl rfl ?_
                refine s_val rfl (v_pick_t rfl rfl) ?_
                refine s_val rfl (v_pick_f rfl rfl) ?_
                refine s_val rfl (v_move rfl) ?_
                refine s_and rfl rfl rfl ?_ ?_
                · intro g8_14
                  refine s_val rfl (v_move rfl) ?_
                  refine s_yes rfl rfl ?_
                  refine s_val rfl (v_neq rfl rfl) ?_
                  refine s_yes rfl rfl ?_
                  refine s_val rfl (v_move rfl) ?_
                  refine s_or rfl rfl rfl ?_ ?_
                  · intro g8_17
                    refine s_no rfl rfl rfl rfl ?_
                    refine s_no rfl rfl rfl rfl ?_
                    refine s_yes rfl rfl ?_
                    refine s_val rfl (v_pick_t rfl rfl) ?_
                    refine s_val rfl (v_pick_t rfl rfl) ?_
                    refine s_val rfl (v_move rfl) ?_
                    refine s_yes rfl rfl ?_
                    refine s_do rfl (d_call Try.call17 rfl (awake14_spec W0 _)) ?_
                    rintro _ _ ⟨rfl, rfl⟩
                    refine s_val rfl (v_pick_t rfl rfl) ?_
                    refine s_val rfl (v_assign rfl) ?_
                    refine x_nil ?_
                    refine n_then ?_
                    refine x_ret ?_
                    refine x_done (.inl rfl) (.cons (r_tmp rfl) .nil) ?_
                    refine ⟨_, ⟨?_, rfl⟩, inferInstance⟩
                    first | rfl | (exfalso; clear hw; first | omega | simp_all)
                  · intro g8_17
                    refine s_val rfl (v_loadAll Try.isAgg23 Try.sizeOf23 rfl rfl) ?_
                    refine s_yes rfl rfl ?_
                    refine s_val rfl (v_loadAll Try.isAgg23 Try.sizeOf23 rfl rfl) ?_
                    refine s_yes rfl rfl ?_
                    refine s_val rfl (v_eql_agg Try.eqGuardType23 rfl rfl (q_struct Try.underlying23 Try.stoodInHeld23 (qf_scal rfl Try.isAgg4 rfl rfl (q_bool Try.underlying4) (qf_scal rfl Try.isAgg3 rfl rfl (q_int Try.underlying3) (qf_scal rfl Try.isAgg3 rfl rfl (q_int Try.underlying3) qf_nil))))) ?_
                    refine s_yes rfl rfl ?_
                    refine s_val rfl (v_pick_f rfl rfl) ?_
                    refine s_val rfl (v_pick_t rfl rfl) ?_
                    refine s_val rfl (v_move rfl) ?_
                    refine s_and rfl rfl rfl ?_ ?_
                    · intro g8_23
                      refine s_do rfl (d_call Try.call17 rfl (awake14_spec W0 _)) ?_
                      rintro _ _ ⟨rfl, rfl⟩
                      refine s_val rfl (v_pick_t rfl rfl) ?_
                      refine s_val rfl (v_assign rfl) ?_
                      refine x_nil ?_
                      refine n_then ?_
                      refine x_ret ?_
                      refine x_done (.inl rfl) (.cons (r_tmp rfl) .nil) ?_
                      refine ⟨_, ⟨?_, rfl⟩, inferInstance⟩
                      first | rfl | (exfalso; clear hw; first | omega | simp_all)
                    · intro g8_23
                      refine s_val rfl (v_pick_f rfl rfl) ?_
                      refine s_val rfl (v_assign rfl) ?_
                      refine x_nil ?_
                      refine n_then ?_
                      refine x_ret ?_
                      refine x_done (.inl rfl) (.cons (r_tmp rfl) .nil) ?_
                      refine ⟨_, ⟨?_, rfl⟩, inferInstance⟩
                      first | rfl | (exfalso; clear hw; first | omega | simp_all)
                · intro g8_14
                  refine s_no rfl rfl rfl rfl ?_
                  refine s_no rfl rfl rfl rfl ?_
                  refine s_nou rfl rfl rfl ?_
                  refine s_nou rfl rfl rfl ?_
                  refine s_nou rfl rfl rfl ?_
                  refine s_no rfl rfl rfl rfl ?_
                  refine s_val rfl (v_pick_f rfl rfl) ?_
                  refine s_val rfl (v_move rfl) ?_
                  refine s_no rfl rfl rfl rfl ?_
                  refine s_val rfl (v_pick_f rfl rfl) ?_
                  refine s_val rfl (v_assign rfl) ?_
                  refine x_nil ?_
                  refine n_then ?_
                  refine x_ret ?_
                  refine x_done (.inl rfl) (.cons (r_tmp rfl) .nil) ?_
                  refine ⟨_, ⟨?_, rfl⟩, inferInstance⟩
                  first | rfl | (exfalso; clear hw; first | omega | simp_all)
              · intro g8_8
                refine s_no rfl rfl rfl rfl ?_
                refine s_no rfl rfl rfl rfl ?_
                refine s_yes rfl rfl ?_
                refine s_val rfl (v_pick_f rfl rfl) ?_
                refine s_val rfl (v_pick_f rfl rfl) ?_
                refine s_val rfl (v_move rfl) ?_
                refine s_no rfl rfl rfl rfl ?_
                refine s_no rfl rfl rfl rfl ?_
                refine s_no rfl rfl rfl rfl ?_
                refine s_nou rfl rfl rfl ?_
                refine s_nou rfl rfl rfl ?_
                refine s_nou rfl rfl rfl ?_
                refine s_no rfl rfl rfl rfl ?_
                refine s_val rfl (v_pick_f rfl rfl) ?_
                refine s_val rfl (v_move rfl) ?_
                refine s_no rfl rfl rfl rfl ?_
                refine s_val rfl (v_pick_f rfl rfl) ?_
                refine s_val rfl (v_assign rfl) ?_
                refine x_nil ?_
                refine n_then ?_
                refine x_ret ?_
                refine x_done (.inl rfl) (.cons (r_tmp rfl) .nil) ?_
                refine ⟨_, ⟨?_, rfl⟩, inferInstance⟩
                first | rfl | (exfalso; clear hw; first | omega | simp_all)
      · intro g3_18
        refine s_no rfl rfl rfl rfl ?_
        refine s_no rfl rfl rfl rfl ?_
        refine s_yes rfl rfl ?_
        refine s_val rfl (v_pick_f rfl rfl) ?_
        refine s_val rfl (v_pick_f rfl rfl) ?_
        refine x_nil ?_
        refine n_then ?_
        refine x_iff rfl ?_
        refine x_skip ?_
        refine n_then ?_
        refine x_seq ?_
        refine x_region ?_
        refine s_val rfl (v_move rfl) ?_
        refine s_do rfl (d_call Try.call16 rfl (Get_spec W0 _ w hw)) ?_
        rintro _ _ ⟨rfl, rfl⟩
        refine s_val rfl (v_move rfl) ?_
        refine s_val rfl (v_extract rfl rfl) ?_
        refine s_val rfl (v_extract rfl rfl) ?_
        refine s_do rfl (d_allocA Try.zeroValue23) ?_
        rintro _ _ ⟨b9, rfl, rfl⟩
        refine s_do0 (d_storeAll Try.sizeOf23 rfl rfl rfl rfl rfl) ?_
        rintro _ _ rfl
        refine s_val rfl (v_assign rfl) ?_
        refine x_nil ?_
        refine n_then ?_
        refine x_seq ?_
        refine x_seq ?_
        refine x_region ?_
        refine s_val rfl (v_move rfl) ?_
        refine s_val rfl (v_neq rfl rfl) ?_
        refine x_nil ?_
        refine n_then ?_
        refine x_if rfl ?_ ?_
        · intro c6
          refine x_seq ?_
          refine x_region ?_
          refine s_val rfl (v_move rfl) ?_
          refine s_val rfl (v_move rfl) ?_
          refine s_val rfl (v_eql rfl rfl) ?_
          refine s_val rfl (v_move rfl) ?_
          refine s_and rfl rfl rfl ?_ ?_
          · intro g7_4
            refine s_val rfl (v_move rfl) ?_
            refine s_yes rfl rfl ?_
            refine s_val rfl (v_move rfl) ?_
            refine s_yes rfl rfl ?_
            refine s_val rfl (v_eql rfl rfl) ?_
            refine s_val rfl (v_pick_t rfl rfl) ?_
            refine s_val rfl (v_move rfl) ?_
            refine s_and rfl rfl rfl ?_ ?_
            · intro g7_9
              refine s_do rfl (d_call Try.call17 rfl (awake14_spec W0 _)) ?_
              rintro _ _ ⟨rfl, rfl⟩
              refine s_val rfl (v_pick_t rfl rfl) ?_
              refine s_val rfl (v_assign rfl) ?_
              refine x_nil ?_
              refine n_then ?_
              refine x_ret ?_
              refine r_then ?_
              refine x_done (.inl rfl) (.cons (r_tmp rfl) .nil) ?_
              refine ⟨_, ⟨?_, rfl⟩, inferInstance⟩
              first | rfl | (exfalso; clear hw; first | omega | simp_all)
            · intro g7_9
              refine s_val rfl (v_pick_f rfl rfl) ?_
              refine s_val rfl (v_assign rfl) ?_
              refine x_nil ?_
              refine n_then ?_
              refine x_ret ?_
              refine r_then ?_
              refine x_done (.inl rfl) (.cons (r_tmp rfl) .nil) ?_
              refine ⟨_, ⟨?_, rfl⟩, inferInstance⟩
              first | rfl | (exfalso; clear hw; first | omega | simp_all)
          · intro g7_4
            refine s_no rfl rfl rfl rfl ?_
            refine s_no rfl rfl rfl rfl ?_
            refine s_val rfl (v_pick_f rfl rfl) ?_
            refine s_val rfl (v_move rfl) ?_
            refine s_no rfl rfl rfl rfl ?_
            refine s_val rfl (v_pick_f rfl rfl) ?_
            refine s_val rfl (v_assign rfl) ?_
            refine x_nil ?_
            refine n_then ?_
            refine x_ret ?_
            refine r_then ?_
            refine x_done (.inl rfl) (.cons (r_tmp rfl) .nil) ?_
            refine ⟨_, ⟨?_, rfl⟩, inferInstance⟩
            first | rfl | (exfalso; clear hw; first | omega | simp_all)
        · intro c6
          refine x_skip ?_
          refine n_then ?_
          refine x_seq ?_
          refine x_region ?_
          refine s_val rfl (v_move rfl) ?_
          refine s_val rfl (v_neq rfl rfl) ?_
          refine s_val rfl (v_move rfl) ?_
          refine s_or rfl rfl rfl ?_ ?_
          · intro g8_3
            refine s_no rfl rfl rfl rfl ?_
            refine s_no rfl rfl rfl rfl ?_
            refine s_no rfl rfl rfl rfl ?_
            refine s_no rfl rfl rfl rfl ?_
            refine s_nou rfl rfl rfl ?_
            refine s_nou rfl rfl rfl ?_
            refine s_nou rfl rfl rfl ?_
            refine s_no rfl rfl rfl rfl ?_
            refine s_val rfl (v_pick_t rfl rfl) ?_
            refine s_val rfl (v_move rfl) ?_
            refine s_yes rfl rfl ?_
            refine s_val rfl (v_move rfl) ?_
            refine s_yes rfl rfl ?_
            refine s_val rfl (v_neq rfl rfl) ?_
            refine s_yes rfl rfl ?_
            refine s_val rfl (v_move rfl) ?_
            refine s_or rfl rfl rfl ?_ ?_
            · intro g8_17
              refine s_no rfl rfl rfl rfl ?_
              refine s_no rfl rfl rfl rfl ?_
              refine s_yes rfl rfl ?_
              refine s_val rfl (v_pick_t rfl rfl) ?_
              refine s_val rfl (v_pick_t rfl rfl) ?_
              refine s_val rfl (v_move rfl) ?_
              refine s_yes rfl rfl ?_
              refine s_do rfl (d_call Try.call17 rfl (awake14_spec W0 _)) ?_
              rintro _ _ ⟨rfl, rfl⟩
              refine s_val rfl (v_pick_t rfl rfl) ?_
              refine s_val rfl (v_assign rfl) ?_
              refine x_nil ?_
              refine n_then ?_
              refine x_ret ?_
              refine x_done (.inl rfl) (.cons (r_tmp rfl) .nil) ?_
              refine ⟨_, ⟨?_, rfl⟩, inferInstance⟩
              first | rfl | (exfalso; clear hw; first | omega | simp_all)
            · intro g8_17
              refine s_val rfl (v_loadAll Try.isAgg23 Try.sizeOf23 rfl rfl) ?_
              refine s_yes rfl rfl ?_
              refine s_val rfl (v_loadAll Try.isAgg23 Try.sizeOf23 rfl rfl) ?_
              refine s_yes rfl rfl ?_
              refine s_val rfl (v_eql_agg Try.eqGuardType23 rfl rfl (q_struct Try.underlying23 Try.stoodInHeld23 (qf_scal rfl Try.isAgg4 rfl rfl (q_bool Try.underlying4) (qf_scal rfl Try.isAgg3 rfl rfl (q_int Try.underlying3) (qf_scal rfl Try.isAgg3 rfl rfl (q_int Try.underlying3) qf_nil))))) ?_
              refine s_yes rfl rfl ?_
              refine s_val rfl (v_pick_f rfl rfl) ?_
              refine s_val rfl (v_pick_t rfl rfl) ?_
              refine s_val rfl (v_move rfl) ?_
              refine s_and rfl rfl rfl ?_ ?_
              · intro g8_23
                refine s_do rfl (d_call Try.call17 rfl (awake14_spec W0 _)) ?_
                rintro _ _ ⟨rfl, rfl⟩
                refine s_val rfl (v_pick_t rfl rfl) ?_
                refine s_val rfl (v_assign rfl) ?_
                refine x_nil ?_
                refine n_then ?_
                refine x_ret ?_
                refine x_done (.inl rfl) (.cons (r_tmp rfl) .nil) ?_
                refine ⟨_, ⟨?_, rfl⟩, inferInstance⟩
                first | rfl | (exfalso; clear hw; first | omega | simp_all)
              · intro g8_23
                refine s_val rfl (v_pick_f rfl rfl) ?_
                refine s_val rfl (v_assign rfl) ?_
                refine x_nil ?_
                refine n_then ?_
                refine x_ret ?_
                refine x_done (.inl rfl) (.cons (r_tmp rfl) .nil) ?_
                refine ⟨_, ⟨?_, rfl⟩, inferInstance⟩
                first | rfl | (exfalso; clear hw; first | omega | simp_all)
          · intro g8_3
            refine s_val rfl (v_move rfl) ?_
            refine s_yes rfl rfl ?_
            refine s_val rfl (v_fieldAddr rfl Try.underlying23 rfl Try.sizeOf3 rfl (by first | exact Nat.zero_add _ | rfl)) ?_
            refine s_yes rfl rfl ?_
            refine s_val rfl (v_load Try.isAgg3 rfl (cell_own rfl)) ?_
            refine s_yes rfl rfl ?_
            refine s_val rfl (v_eql rfl rfl) ?_
            refine s_yes rfl rfl ?_
            refine s_val rfl (v_move rfl) ?_
            refine s_and rfl rfl rfl ?_ ?_
            · intro g8_8
              refine s_val rfl (v_fieldAddr rfl Try.underlying23 rfl Try.sizeOf3 rfl (by first | exact Nat.zero_add _ | rfl)) ?_
              refine s_yes rfl rfl ?_
              refine s_val rfl (v_load Try.isAgg3 rfl (cell_own rfl)) ?_
              refine s_yes rfl rfl ?_
              refine s_val rfl (v_eql rfl rfl) ?_
              refine s_yes rfl rfl ?_
              refine s_val rfl (v_pick_t rfl rfl) ?_
              refine s_val rfl (v_pick_f rfl rfl) ?_
              refine s_val rfl (v_move rfl) ?_
              refine s_and rfl rfl rfl ?_ ?_
              · intro g8_14
                refine s_val rfl (v_move rfl) ?_
                refine s_yes rfl rfl ?_
                refine s_val rfl (v_neq rfl rfl) ?_
                refine s_yes rfl rfl ?_
                refine s_val rfl (v_move rfl) ?_
                refine s_or rfl rfl rfl ?_ ?_
                · intro g8_17
                  refine s_no rfl rfl rfl rfl ?_
                  refine s_no rfl rfl rfl rfl ?_
                  refine s_yes rfl rfl ?_
                  refine s_val rfl (v_pick_t rfl rfl) ?_
                  refine s_val rfl (v_pick_t rfl rfl) ?_
                  refine s_val rfl (v_move rfl) ?_
                  refine s_yes rfl rfl ?_
                  refine s_do rfl (d_call Try.call17 rfl (awake14_spec W0 _)) ?_
                  rintro _ _ ⟨rfl, rfl⟩
                  refine s_val rfl (v_pick_t rfl rfl) ?_
                  refine s_val rfl (v_assign rfl) ?_
                  refine x_nil ?_
                  refine n_then ?_
                  refine x_ret ?_
                  refine x_done (.inl rfl) (.cons (r_tmp rfl) .nil) ?_
                  refine ⟨_, ⟨?_, rfl⟩, inferInstance⟩
                  first | rfl | (exfalso; clear hw; first | omega | simp_all)
                · intro g8_17
                  refine s_val rfl (v_loadAll Try.isAgg23 Try.sizeOf23 rfl rfl) ?_
                  refine s_yes rfl rfl ?_
                  refine s_val rfl (v_loadAll Try.isAgg23 Try.sizeOf23 rfl rfl) ?_
                  refine s_yes rfl rfl ?_
                  refine s_val rfl (v_eql_agg Try.eqGuardType23 rfl rfl (q_struct Try.underlying23 Try.stoodInHeld23 (qf_scal rfl Try.isAgg4 rfl rfl (q_bool Try.underlying4) (qf_scal rfl Try.isAgg3 rfl rfl (q_int Try.underlying3) (qf_scal rfl Try.isAgg3 rfl rfl (q_int Try.underlying3) qf_nil))))) ?_
                  refine s_yes rfl rfl ?_
                  refine s_val rfl (v_pick_f rfl rfl) ?_
                  refine s_val rfl (v_pick_t rfl rfl) ?_
                  refine s_val rfl (v_move rfl) ?_
                  refine s_and rfl rfl rfl ?_ ?_
                  · intro g8_23
                    refine s_do rfl (d_call Try.call17 rfl (awake14_spec W0 _)) ?_
                    rintro _ _ ⟨rfl, rfl⟩
                    refine s_val rfl (v_pick_t rfl rfl) ?_
                    refine s_val rfl (v_assign rfl) ?_
                    refine x_nil ?_
                    refine n_then ?_
                    refine x_ret ?_
                    refine x_done (.inl rfl) (.cons (r_tmp rfl) .nil) ?_
                    refine ⟨_, ⟨?_, rfl⟩, inferInstance⟩
                    first | rfl | (exfalso; clear hw; first | omega | simp_all)
                  · intro g8_23
                    refine s_val rfl (v_pick_f rfl rfl) ?_
                    refine s_val rfl (v_assign rfl) ?_
                    refine x_nil ?_
                    refine n_then ?_
                    refine x_ret ?_
                    refine x_done (.inl rfl) (.cons (r_tmp rfl) .nil) ?_
                    refine ⟨_, ⟨?_, rfl⟩, inferInstance⟩
                    first | rfl | (exfalso; clear hw; first | omega | simp_all)
              · intro g8_14
                refine s_no rfl rfl rfl rfl ?_
                refine s_no rfl rfl rfl rfl ?_
                refine s_nou rfl rfl rfl ?_
                refine s_nou rfl rfl rfl ?_
                refine s_nou rfl rfl rfl ?_
                refine s_no rfl rfl rfl rfl ?_
                refine s_val rfl (v_pick_f rfl rfl) ?_
                refine s_val rfl (v_move rfl) ?_
                refine s_no rfl rfl rfl rfl ?_
                refine s_val rfl (v_pick_f rfl rfl) ?_
                refine s_val rfl (v_assign rfl) ?_
                refine x_nil ?_
                refine n_then ?_
                refine x_ret ?_
                refine x_done (.inl rfl) (.cons (r_tmp rfl) .nil) ?_
                refine ⟨_, ⟨?_, rfl⟩, inferInstance⟩
                first | rfl | (exfalso; clear hw; first | omega | simp_all)
            · intro g8_8
              refine s_no rfl rfl rfl rfl ?_
              refine s_no rfl rfl rfl rfl ?_
              refine s_yes rfl rfl ?_
              refine s_val rfl (v_pick_f rfl rfl) ?_
              refine s_val rfl (v_pick_f rfl rfl) ?_
              refine s_val rfl (v_move rfl) ?_
              refine s_no rfl rfl rfl rfl ?_
              refine s_no rfl rfl rfl rfl ?_
              refine s_no rfl rfl rfl rfl ?_
              refine s_nou rfl rfl rfl ?_
              refine s_nou rfl rfl rfl ?_
              refine s_nou rfl rfl rfl ?_
              refine s_no rfl rfl rfl rfl ?_
              refine s_val rfl (v_pick_f rfl rfl) ?_
              refine s_val rfl (v_move rfl) ?_
              refine s_no rfl rfl rfl rfl ?_
              refine s_val rfl (v_pick_f rfl rfl) ?_
              refine s_val rfl (v_assign rfl) ?_
              refine x_nil ?_
              refine n_then ?_
              refine x_ret ?_
              refine x_done (.inl rfl) (.cons (r_tmp rfl) .nil) ?_
              refine ⟨_, ⟨?_, rfl⟩, inferInstance⟩
              first | rfl | (exfalso; clear hw; first | omega | simp_all)

theorem putN_lt (on : Bool) (r p : Int) : putN on r p < 4294967296 := by
  unfold putN; split
  · rename_i h; have := rightB_iff.1 h.1; omega
  · omega
/-- What was put is got. -/
theorem get_put {on : Bool} {r p : Int} (h : putE on r p = 0) : gOn (putN on r p) = on ∧ (gR (putN on r p) : Int) = r ∧ (gP (putN on r p) : Int) = p ∧ (getF (putN on r p) == 0) = on := by
  have hr : rightB on r p = true := by unfold putE at h; split at h <;> simp_all
  have hb := rightB_iff.1 hr
  cases on with
  | false =>
    have e : putN false r p = 0 := by simp [putN]
    have f : getF 0 = 4 := by rfl
    simp at hb
    rw [e]; simp [gOn, gR, gP, f]; omega
  | true =>
    have e : putN true r p = 1 + 2 * r.toNat + 256 * p.toNat := by simp [putN, hr]
    have e2 : putN true r p % 2 = 1 := by omega
    have e3 : putN true r p / 2 % 16 = r.toNat := by omega
    have e4 : putN true r p / 256 % 32 = p.toNat := by omega
    have e5 : putN true r p % 32 = putN true r p % 2 + 2 * (putN true r p / 2 % 16) := Nat.mod_mul (x := putN true r p) (a := 2) (b := 16)
    have f : getF (putN true r p) = 0 := by unfold getF; rw [if_neg (by omega), if_pos (by omega)]
    simp only [gOn, gR, gP, f, if_true, e3, e4]
    simp; omega
/-- An entry that was got has its word. -/
theorem put_get {w : Nat} (h : getF w = 0) : gOn w = true ∧ putE (gOn w) (gR w) (gP w) = 0 ∧ putN (gOn w) (gR w) (gP w) = w := by
  have ho : gOn w = true := by simp [gOn, h]
  have e1 : gR w = w / 2 % 16 := by simp [gR, h]
  have e2 : gP w = w / 256 % 32 := by simp [gP, h]
  have e5 : w % 32 = w % 2 + 2 * (w / 2 % 16) := Nat.mod_mul (x := w) (a := 2) (b := 16)
  have hr : rightB true ((w / 2 % 16 : Nat) : Int) ((w / 256 % 32 : Nat) : Int) = true := rightB_iff.2 ⟨by omega, by omega, by omega, by omega, .inl rfl⟩
  rw [ho, e1, e2]
  refine ⟨rfl, by simp only [putE, hr, if_true], ?_⟩
  rw [putN_get]
  unfold getF at h
  split at h
  · cases h
  · split at h
    · omega
    · cases h

theorem getF4 (w : Nat) : (getF w == 4) = (((w % 2 : Nat) : Int) == 0) := by
  rw [Bool.eq_iff_iff, beq_iff_eq, beq_iff_eq]; unfold getF
  by_cases h : w % 2 = 0
  · rw [if_pos h, h]; simp
  · rw [if_neg h]; split <;> omega

theorem PteBack_walk (W0 : World) (on : Bool) (r p : Int) (w : Nat) (hw : w < 4294967296) :
    Spec Try.prog W0 3 [.agg #[.bool on, .int .i64 r, .int .i64 p], .int .u32 w] [] (fun v B => v = .bool true ∧ B = []) := by
  have h1 := @get_put on r p
  have h2 := @put_get w
  have h3 : getF w = 0 ∨ (gOn w = false ∧ gR w = 0 ∧ gP w = 0) := by unfold gOn gR gP; split <;> simp_all
  have h4 := getF4 w
  refine spec_body Try.func3 Try.ntmps3 rfl rfl ?_
  refine x_seq ?_
  refine x_region ?_
  refine s_do rfl (d_boxA rfl) ?_
  rintro _ _ ⟨b1, rfl, rfl⟩
  refine s_val rfl (v_assign rfl) ?_
  refine x_nil ?_
  refine n_then ?_
  refine x_seq ?_
  refine x_region ?_
  refine s_val rfl (v_loadAll Try.isAgg23 Try.sizeOf23 rfl rfl) ?_
  refine s_do rfl (d_call Try.call15 rfl (Put_spec W0 _ on r p)) ?_
  rintro _ _ ⟨rfl, rfl⟩
  refine s_val rfl (v_move rfl) ?_
  refine s_val rfl (v_extract rfl rfl) ?_
  refine s_val rfl (v_extract rfl rfl) ?_
  refine s_val rfl (v_assign rfl) ?_
  refine s_val rfl (v_assign rfl) ?_
  refine x_nil ?_
  refine n_then ?_
  refine x_seq ?_
  refine x_seq ?_
  refine x_region ?_
  refine s_val rfl (v_move rfl) ?_
  refine s_val rfl (v_eql rfl rfl) ?_
  refine x_nil ?_
  refine n_then ?_
  refine x_if rfl ?_ ?_
  · intro c2
    refine x_seq ?_
    refine x_region ?_
    refine s_val rfl (v_move rfl) ?_
    refine s_do rfl (d_call Try.call16 rfl (Get_spec W0 _ (putN on r p) (putN_lt on r p))) ?_
    rintro _ _ ⟨rfl, rfl⟩
    refine s_val rfl (v_move rfl) ?_
    refine s_val rfl (v_extract rfl rfl) ?_
    refine s_val rfl (v_extract rfl rfl) ?_
    refine s_do rfl (d_allocA Try.zeroValue23) ?_
    rintro _ _ ⟨b2, rfl, rfl⟩
    refine s_do0 (d_storeAll Try.sizeOf23 rfl rfl rfl rfl rfl) ?_
    rintro _ _ rfl
    refine s_val rfl (v_assign rfl) ?_
    refine x_nil ?_
    refine n_then ?_
    refine x_seq ?_
    refine x_region ?_
    refine s_val rfl (v_loadAll Try.isAgg23 Try.sizeOf23 rfl rfl) ?_
    refine s_val rfl (v_loadAll Try.isAgg23 Try.sizeOf23 rfl rfl) ?_
    refine s_val rfl (v_neq_agg Try.eqGuardType23 rfl rfl (q_struct Try.underlying23 Try.stoodInHeld23 (qf_scal rfl Try.isAgg4 rfl rfl (q_bool Try.underlying4) (qf_scal rfl Try.isAgg3 rfl rfl (q_int Try.underlying3) (qf_scal rfl Try.isAgg3 rfl rfl (q_int Try.underlying3) qf_nil))))) ?_
    refine s_val rfl (v_move rfl) ?_
    refine s_or rfl rfl rfl ?_ ?_
    · intro g4_4
      refine s_no rfl rfl rfl rfl ?_
      refine s_no rfl rfl rfl rfl ?_
      refine s_no rfl rfl rfl rfl ?_
      refine s_no rfl rfl rfl rfl ?_
      refine s_val rfl (v_pick_t rfl rfl) ?_
      refine x_nil ?_
      refine n_then ?_
      refine x_ift rfl ?_
      refine x_seq ?_
      refine x_region ?_
      refine s_val rfl (v_assign rfl) ?_
      refine x_nil ?_
      refine n_then ?_
      refine x_ret ?_
      refine r_then ?_
      refine x_done (.inl rfl) (.cons (r_tmp rfl) .nil) ?_
      refine ⟨_, ⟨?_, rfl⟩, inferInstance⟩
      exfalso; clear hw h2 h3 h4; obtain ⟨q1, q2, q3, q4⟩ := h1 (by assumption); first | exact absurd q4 (by assumption) | (simp_all; done) | (simp_all; omega)
    · intro g4_4
      refine s_val rfl (v_move rfl) ?_
      refine s_yes rfl rfl ?_
      refine s_val rfl (v_eql rfl rfl) ?_
      refine s_yes rfl rfl ?_
      refine s_val rfl (v_fieldAddr rfl Try.underlying23 rfl Try.sizeOf4 rfl (by first | exact Nat.zero_add _ | rfl)) ?_
      refine s_yes rfl rfl ?_
      refine s_val rfl (v_load Try.isAgg4 rfl (cell_own rfl)) ?_
      refine s_yes rfl rfl ?_
      refine s_val rfl (v_neq_bool Try.underlying4 rfl rfl) ?_
      refine s_val rfl (v_pick_f rfl rfl) ?_
      refine x_nil ?_
      refine n_then ?_
      refine x_if rfl ?_ ?_
      · intro c4
        refine x_seq ?_
        refine x_region ?_
        refine s_val rfl (v_assign rfl) ?_
        refine x_nil ?_
        refine n_then ?_
        refine x_ret ?_
        refine r_then ?_
        refine x_done (.inl rfl) (.cons (r_tmp rfl) .nil) ?_
        refine ⟨_, ⟨?_, rfl⟩, inferInstance⟩
        exfalso; clear hw h2 h3 h4; obtain ⟨q1, q2, q3, q4⟩ := h1 (by assumption); first | exact absurd q4 (by assumption) | (simp_all; done) | (simp_all; omega)
      · intro c4
        refine x_skip ?_
        refine n_then ?_
        refine x_seq ?_
        refine x_region ?_
        refine s_val rfl (v_move rfl) ?_
        refine s_do rfl (d_call Try.call16 rfl (Get_spec W0 _ w hw)) ?_
        rintro _ _ ⟨rfl, rfl⟩
        refine s_val rfl (v_move rfl) ?_
        refine s_val rfl (v_extract rfl rfl) ?_
        refine s_val rfl (v_extract rfl rfl) ?_
        refine s_do rfl (d_allocA Try.zeroValue23) ?_
        rintro _ _ ⟨b3, rfl, rfl⟩
        refine s_do0 (d_storeAll Try.sizeOf23 rfl rfl rfl rfl rfl) ?_
        rintro _ _ rfl
        refine s_val rfl (v_assign rfl) ?_
        refine x_nil ?_
        refine n_then ?_
        refine x_seq ?_
        refine x_seq ?_
        refine x_region ?_
        refine s_val rfl (v_move rfl) ?_
        refine s_val rfl (v_neq rfl rfl) ?_
        refine x_nil ?_
        refine n_then ?_
        refine x_if rfl ?_ ?_
        · intro c7
          refine x_seq ?_
          refine x_region ?_
          refine s_val rfl (v_loadAll Try.isAgg23 Try.sizeOf23 rfl rfl) ?_
          refine s_val rfl (v_build Try.underlying23 Try.zeroValue23 (sized_cons Try.sizeOf4 (sized_cons Try.sizeOf3 (sized_cons Try.sizeOf3 sized_nil))) fil_nil) ?_
          refine s_val rfl (v_eql_agg Try.eqGuardType23 rfl rfl (q_struct Try.underlying23 Try.stoodInHeld23 (qf_scal rfl Try.isAgg4 rfl rfl (q_bool Try.underlying4) (qf_scal rfl Try.isAgg3 rfl rfl (q_int Try.underlying3) (qf_scal rfl Try.isAgg3 rfl rfl (q_int Try.underlying3) qf_nil))))) ?_
          refine s_val rfl (v_move rfl) ?_
          refine s_and rfl rfl rfl ?_ ?_
          · intro g8_4
            refine s_val rfl (v_move rfl) ?_
            refine s_yes rfl rfl ?_
            refine s_val rfl (v_eql rfl rfl) ?_
            refine s_yes rfl rfl ?_
            refine s_val rfl (v_move rfl) ?_
            refine s_yes rfl rfl ?_
            refine s_val rfl (v_rem rfl rfl (by decide) rem2) ?_
            refine s_yes rfl rfl ?_
            refine s_val rfl (v_eql rfl rfl) ?_
            refine s_yes rfl rfl ?_
            refine s_val rfl (v_eql_bool Try.underlying4 rfl rfl) ?_
            refine s_val rfl (v_pick_t rfl rfl) ?_
            refine s_val rfl (v_move rfl) ?_
            refine s_and rfl rfl rfl ?_ ?_
            · intro g8_12
              refine s_do rfl (d_call Try.call17 rfl (awake14_spec W0 _)) ?_
              rintro _ _ ⟨rfl, rfl⟩
              refine s_val rfl (v_pick_t rfl rfl) ?_
              refine s_val rfl (v_assign rfl) ?_
              refine x_nil ?_
              refine n_then ?_
              refine x_ret ?_
              refine r_then ?_
              refine x_done (.inl rfl) (.cons (r_tmp rfl) .nil) ?_
              refine ⟨_, ⟨?_, rfl⟩, inferInstance⟩
              first | rfl | (exfalso; clear hw h1; first | omega | exact absurd h4 (by assumption) | (simp_all; done) | (simp_all; omega))
            · intro g8_12
              refine s_val rfl (v_pick_f rfl rfl) ?_
              refine s_val rfl (v_assign rfl) ?_
              refine x_nil ?_
              refine n_then ?_
              refine x_ret ?_
              refine r_then ?_
              refine x_done (.inl rfl) (.cons (r_tmp rfl) .nil) ?_
              refine ⟨_, ⟨?_, rfl⟩, inferInstance⟩
              first | rfl | (exfalso; clear hw h1; first | omega | exact absurd h4 (by assumption) | (simp_all; done) | (simp_all; omega))
          · intro g8_4
            refine s_no rfl rfl rfl rfl ?_
            refine s_no rfl rfl rfl rfl ?_
            refine s_no rfl rfl rfl rfl ?_
            refine s_no rfl rfl rfl rfl ?_
            refine s_no rfl rfl rfl rfl ?_
            refine s_val rfl (v_pick_f rfl rfl) ?_
            refine s_val rfl (v_move rfl) ?_
            refine s_no rfl rfl rfl rfl ?_
            refine s_val rfl (v_pick_f rfl rfl) ?_
            refine s_val rfl (v_assign rfl) ?_
            refine x_nil ?_
            refine n_then ?_
            refine x_ret ?_
            refine r_then ?_
            refine x_done (.inl rfl) (.cons (r_tmp rfl) .nil) ?_
            refine ⟨_, ⟨?_, rfl⟩, inferInstance⟩
            first | rfl | (exfalso; clear hw h1; first | omega | exact absurd h4 (by assumption) | (simp_all; done) | (simp_all; omega))
        · intro c7
          refine x_skip ?_
          refine n_then ?_
          refine x_seq ?_
          refine x_region ?_
          refine s_val rfl (v_loadAll Try.isAgg23 Try.sizeOf23 rfl rfl) ?_
          refine s_do rfl (d_call Try.call15 rfl (Put_spec W0 _ (gOn w) (gR w) (gP w))) ?_
          rintro _ _ ⟨rfl, rfl⟩
          refine s_val rfl (v_move rfl) ?_
          refine s_val rfl (v_extract rfl rfl) ?_
          refine s_val rfl (v_extract rfl rfl) ?_
          refine s_val rfl (v_assign rfl) ?_
          refine s_val rfl (v_assign rfl) ?_
          refine x_nil ?_
          refine n_then ?_
          refine x_seq ?_
          refine x_region ?_
          refine s_val rfl (v_move rfl) ?_
          refine s_val rfl (v_eql rfl rfl) ?_
          refine s_val rfl (v_move rfl) ?_
          refine s_and rfl rfl rfl ?_ ?_
          · intro g10_3
            refine s_val rfl (v_move rfl) ?_
            refine s_yes rfl rfl ?_
            refine s_val rfl (v_move rfl) ?_
            refine s_yes rfl rfl ?_
            refine s_val rfl (v_eql rfl rfl) ?_
            refine s_val rfl (v_pick_t rfl rfl) ?_
            refine s_val rfl (v_move rfl) ?_
            refine s_and rfl rfl rfl ?_ ?_
            · intro g10_8
              refine s_val rfl (v_fieldAddr rfl Try.underlying23 rfl Try.sizeOf4 rfl (by first | exact Nat.zero_add _ | rfl)) ?_
              refine s_yes rfl rfl ?_
              refine s_val rfl (v_load Try.isAgg4 rfl (cell_own rfl)) ?_
              refine s_val rfl (v_pick_t rfl rfl) ?_
              refine s_val rfl (v_move rfl) ?_
              refine s_and rfl rfl rfl ?_ ?_
              · intro g10_12
                refine s_do rfl (d_call Try.call17 rfl (awake14_spec W0 _)) ?_
                rintro _ _ ⟨rfl, rfl⟩
                refine s_val rfl (v_pick_t rfl rfl) ?_
                refine s_val rfl (v_assign rfl) ?_
                refine x_nil ?_
                refine n_then ?_
                refine x_ret ?_
                refine x_done (.inl rfl) (.cons (r_tmp rfl) .nil) ?_
                refine ⟨_, ⟨?_, rfl⟩, inferInstance⟩
                first | rfl | (exfalso; clear hw h1; first | omega | exact absurd h4 (by assumption) | (simp_all; done) | (simp_all; omega))
              · intro g10_12
                refine s_val rfl (v_pick_f rfl rfl) ?_
                refine s_val rfl (v_assign rfl) ?_
                refine x_nil ?_
                refine n_then ?_
                refine x_ret ?_
                refine x_done (.inl rfl) (.cons (r_tmp rfl) .nil) ?_
                refine ⟨_, ⟨?_, rfl⟩, inferInstance⟩
                first | rfl | (exfalso; clear hw h1; first | omega | exact absurd h4 (by assumption) | (simp_all; done) | (simp_all; omega))
            · intro g10_8
              refine s_no rfl rfl rfl rfl ?_
              refine s_val rfl (v_pick_f rfl rfl) ?_
              refine s_val rfl (v_move rfl) ?_
              refine s_no rfl rfl rfl rfl ?_
              refine s_val rfl (v_pick_f rfl rfl) ?_
              refine s_val rfl (v_assign rfl) ?_
              refine x_nil ?_
              refine n_then ?_
              refine x_ret ?_
              refine x_done (.inl rfl) (.cons (r_tmp rfl) .nil) ?_
              refine ⟨_, ⟨?_, rfl⟩, inferInstance⟩
              first | rfl | (exfalso; clear hw h1; first | omega | exact absurd h4 (by assumption) | (simp_all; done) | (simp_all; omega))
          · intro g10_3
            refine s_no rfl rfl rfl rfl ?_
            refine s_no rfl rfl rfl rfl ?_
            refine s_val rfl (v_pick_f rfl rfl) ?_
            refine s_val rfl (v_move rfl) ?_
            refine s_no rfl rfl rfl rfl ?_
            refine s_no rfl rfl rfl rfl ?_
            refine s_val rfl (v_pick_f rfl rfl) ?_
            refine s_val rfl (v_move rfl) ?_
            refine s_no rfl rfl rfl rfl ?_
            refine s_val rfl (v_pick_f rfl rfl) ?_
            refine s_val rfl (v_assign rfl) ?_
            refine x_nil ?_
            refine n_then ?_
            refine x_ret ?_
            refine x_done (.inl rfl) (.cons (r_tmp rfl) .nil) ?_
            refine ⟨_, ⟨?_, rfl⟩, inferInstance⟩
            first | rfl | (exfalso; clear hw h1; first | omega | exact absurd h4 (by assumption) | (simp_all; done) | (simp_all; omega))
  · intro c2
    refine x_skip ?_
    refine n_then ?_
    refine x_seq ?_
    refine x_region ?_
    refine s_val rfl (v_move rfl) ?_
    refine s_do rfl (d_call Try.call16 rfl (Get_spec W0 _ w hw)) ?_
    rintro _ _ ⟨rfl, rfl⟩
    refine s_val rfl (v_move rfl) ?_
    refine s_val rfl (v_extract rfl rfl) ?_
    refine s_val rfl (v_extract rfl rfl) ?_
    refine s_do rfl (d_allocA Try.zeroValue23) ?_
    rintro _ _ ⟨b4, rfl, rfl⟩
    refine s_do0 (d_storeAll Try.sizeOf23 rfl rfl rfl rfl rfl) ?_
    rintro _ _ rfl
    refine s_val rfl (v_assign rfl) ?_
    refine x_nil ?_
    refine n_then ?_
    refine x_seq ?_
    refine x_seq ?_
    refine x_region ?_
    refine s_val rfl (v_move rfl) ?_
    refine s_val rfl (v_neq rfl rfl) ?_
    refine x_nil ?_
    refine n_then ?_
    refine x_if rfl ?_ ?_
    · intro c7
      refine x_seq ?_
      refine x_region ?_
      refine s_val rfl (v_loadAll Try.isAgg23 Try.sizeOf23 rfl rfl) ?_
      refine s_val rfl (v_build Try.underlying23 Try.zeroValue23 (sized_cons Try.sizeOf4 (sized_cons Try.sizeOf3 (sized_cons Try.sizeOf3 sized_nil))) fil_nil) ?_
      refine s_val rfl (v_eql_agg Try.eqGuardType23 rfl rfl (q_struct Try.underlying23 Try.stoodInHeld23 (qf_scal rfl Try.isAgg4 rfl rfl (q_bool Try.underlying4) (qf_scal rfl Try.isAgg3 rfl rfl (q_int Try.underlying3) (qf_scal rfl Try.isAgg3 rfl rfl (q_int Try.underlying3) qf_nil))))) ?_
      refine s_val rfl (v_move rfl) ?_
      refine s_and rfl rfl rfl ?_ ?_
      · intro g8_4
        refine s_val rfl (v_move rfl) ?_
        refine s_yes rfl rfl ?_
        refine s_val rfl (v_eql rfl rfl) ?_
        refine s_yes rfl rfl ?_
        refine s_val rfl (v_move rfl) ?_
        refine s_yes rfl rfl ?_
        refine s_val rfl (v_rem rfl rfl (by decide) rem2) ?_
        refine s_yes rfl rfl ?_
        refine s_val rfl (v_eql rfl rfl) ?_
        refine s_yes rfl rfl ?_
        refine s_val rfl (v_eql_bool Try.underlying4 rfl rfl) ?_
        refine s_val rfl (v_pick_t rfl rfl) ?_
        refine s_val rfl (v_move rfl) ?_
        refine s_and rfl rfl rfl ?_ ?_
        · intro g8_12
          refine s_do rfl (d_call Try.call17 rfl (awake14_spec W0 _)) ?_
          rintro _ _ ⟨rfl, rfl⟩
          refine s_val rfl (v_pick_t rfl rfl) ?_
          refine s_val rfl (v_assign rfl) ?_
          refine x_nil ?_
          refine n_then ?_
          refine x_ret ?_
          refine r_then ?_
          refine x_done (.inl rfl) (.cons (r_tmp rfl) .nil) ?_
          refine ⟨_, ⟨?_, rfl⟩, inferInstance⟩
          first | rfl | (exfalso; clear hw h1; first | omega | exact absurd h4 (by assumption) | (simp_all; done) | (simp_all; omega))
        · intro g8_12
          refine s_val rfl (v_pick_f rfl rfl) ?_
          refine s_val rfl (v_assign rfl) ?_
          refine x_nil ?_
          refine n_then ?_
          refine x_ret ?_
          refine r_then ?_
          refine x_done (.inl rfl) (.cons (r_tmp rfl) .nil) ?_
          refine ⟨_, ⟨?_, rfl⟩, inferInstance⟩
          first | rfl | (exfalso; clear hw h1; first | omega | exact absurd h4 (by assumption) | (simp_all; done) | (simp_all; omega))
      · intro g8_4
        refine s_no rfl rfl rfl rfl ?_
        refine s_no rfl rfl rfl rfl ?_
        refine s_no rfl rfl rfl rfl ?_
        refine s_no rfl rfl rfl rfl ?_
        refine s_no rfl rfl rfl rfl ?_
        refine s_val rfl (v_pick_f rfl rfl) ?_
        refine s_val rfl (v_move rfl) ?_
        refine s_no rfl rfl rfl rfl ?_
        refine s_val rfl (v_pick_f rfl rfl) ?_
        refine s_val rfl (v_assign rfl) ?_
        refine x_nil ?_
        refine n_then ?_
        refine x_ret ?_
        refine r_then ?_
        refine x_done (.inl rfl) (.cons (r_tmp rfl) .nil) ?_
        refine ⟨_, ⟨?_, rfl⟩, inferInstance⟩
        first | rfl | (exfalso; clear hw h1; first | omega | exact absurd h4 (by assumption) | (simp_all; done) | (simp_all; omega))
    · intro c7
      refine x_skip ?_
      refine n_then ?_
      refine x_seq ?_
      refine x_region ?_
      refine s_val rfl (v_loadAll Try.isAgg23 Try.sizeOf23 rfl rfl) ?_
      refine s_do rfl (d_call Try.call15 rfl (Put_spec W0 _ (gOn w) (gR w) (gP w))) ?_
      rintro _ _ ⟨rfl, rfl⟩
      refine s_val rfl (v_move rfl) ?_
      refine s_val rfl (v_extract rfl rfl) ?_
      refine s_val rfl (v_extract rfl rfl) ?_
      refine s_val rfl (v_assign rfl) ?_
      refine s_val rfl (v_assign rfl) ?_
      refine x_nil ?_
      refine n_then ?_
      refine x_seq ?_
      refine x_region ?_
      refine s_val rfl (v_move rfl) ?_
      refine s_val rfl (v_eql rfl rfl) ?_
      refine s_val rfl (v_move rfl) ?_
      refine s_and rfl rfl rfl ?_ ?_
      · intro g10_3
        refine s_val rfl (v_move rfl) ?_
        refine s_yes rfl rfl ?_
        refine s_val rfl (v_move rfl) ?_
        refine s_yes rfl rfl ?_
        refine s_val rfl (v_eql rfl rfl) ?_
        refine s_val rfl (v_pick_t rfl rfl) ?_
        refine s_val rfl (v_move rfl) ?_
        refine s_and rfl rfl rfl ?_ ?_
        · intro g10_8
          refine s_val rfl (v_fieldAddr rfl Try.underlying23 rfl Try.sizeOf4 rfl (by first | exact Nat.zero_add _ | rfl)) ?_
          refine s_yes rfl rfl ?_
          refine s_val rfl (v_load Try.isAgg4 rfl (cell_own rfl)) ?_
          refine s_val rfl (v_pick_t rfl rfl) ?_
          refine s_val rfl (v_move rfl) ?_
          refine s_and rfl rfl rfl ?_ ?_
          · intro g10_12
            refine s_do rfl (d_call Try.call17 rfl (awake14_spec W0 _)) ?_
            rintro _ _ ⟨rfl, rfl⟩
            refine s_val rfl (v_pick_t rfl rfl) ?_
            refine s_val rfl (v_assign rfl) ?_
            refine x_nil ?_
            refine n_then ?_
            refine x_ret ?_
            refine x_done (.inl rfl) (.cons (r_tmp rfl) .nil) ?_
            refine ⟨_, ⟨?_, rfl⟩, inferInstance⟩
            first | rfl | (exfalso; clear hw h1; first | omega | exact absurd h4 (by assumption) | (simp_all; done) | (simp_all; omega))
          · intro g10_12
            refine s_val rfl (v_pick_f rfl rfl) ?_
            refine s_val rfl (v_assign rfl) ?_
            refine x_nil ?_
            refine n_then ?_
            refine x_ret ?_
            refine x_done (.inl rfl) (.cons (r_tmp rfl) .nil) ?_
            refine ⟨_, ⟨?_, rfl⟩, inferInstance⟩
            first | rfl | (exfalso; clear hw h1; first | omega | exact absurd h4 (by assumption) | (simp_all; done) | (simp_all; omega))
        · intro g10_8
          refine s_no rfl rfl rfl rfl ?_
          refine s_val rfl (v_pick_f rfl rfl) ?_
          refine s_val rfl (v_move rfl) ?_
          refine s_no rfl rfl rfl rfl ?_
          refine s_val rfl (v_pick_f rfl rfl) ?_
          refine s_val rfl (v_assign rfl) ?_
          refine x_nil ?_
          refine n_then ?_
          refine x_ret ?_
          refine x_done (.inl rfl) (.cons (r_tmp rfl) .nil) ?_
          refine ⟨_, ⟨?_, rfl⟩, inferInstance⟩
          first | rfl | (exfalso; clear hw h1; first | omega | exact absurd h4 (by assumption) | (simp_all; done) | (simp_all; omega))
      · intro g10_3
        refine s_no rfl rfl rfl rfl ?_
        refine s_no rfl rfl rfl rfl ?_
        refine s_val rfl (v_pick_f rfl rfl) ?_
        refine s_val rfl (v_move rfl) ?_
        refine s_no rfl rfl rfl rfl ?_
        refine s_no rfl rfl rfl rfl ?_
        refine s_val rfl (v_pick_f rfl rfl) ?_
        refine s_val rfl (v_move rfl) ?_
        refine s_no rfl rfl rfl rfl ?_
        refine s_val rfl (v_pick_f rfl rfl) ?_
        refine s_val rfl (v_assign rfl) ?_
        refine x_nil ?_
        refine n_then ?_
        refine x_ret ?_
        refine x_done (.inl rfl) (.cons (r_tmp rfl) .nil) ?_
        refine ⟨_, ⟨?_, rfl⟩, inferInstance⟩
        first | rfl | (exfalso; clear hw h1; first | omega | exact absurd h4 (by assumption) | (simp_all; done) | (simp_all; omega))

theorem or_u8 {a b : Nat} (ha : a < 16) (hb : b < 16) : bOr .u8 a b = ((a ||| b : Nat) : Int) := by
  have : ∀ a : Nat, a < 16 → ∀ b : Nat, b < 16 → bOr .u8 a b = ((a ||| b : Nat) : Int) := by decide +kernel
  exact this a ha b hb
theorem or_lt16 {a b : Nat} (ha : a < 16) (hb : b < 16) : a ||| b < 16 := Nat.or_lt_two_pow (n := 4) ha hb
theorem bitR_or {a b : Nat} (ha : a < 16) (hb : b < 16) {c : Int} (hc : c = 0 ∨ c = 1 ∨ c = 2 ∨ c = 4 ∨ c = 8) (h : bitR a c = true) : bitR ((a ||| b : Nat) : Int) c = true := by
  have : ∀ a : Nat, a < 16 → ∀ b : Nat, b < 16 → ∀ c ∈ [(0 : Int), 1, 2, 4, 8], bitR a c = true → bitR ((a ||| b : Nat) : Int) c = true := by decide +kernel
  exact this a ha b hb c (by rcases hc with rfl | rfl | rfl | rfl | rfl <;> simp) h
theorem needR_cases (k : Int) : needR k = 0 ∨ needR k = 1 ∨ needR k = 2 ∨ needR k = 4 ∨ needR k = 8 := by unfold needR; split; simp; split; simp; split <;> simp

theorem PteMore_walk (W0 : World) (page a b : Nat) (hp : page < 256) (ha : a < 256) (hb : b < 256) (k : Int) (user : Bool) :
    Spec Try.prog W0 5 [.int .u8 page, .int .u8 a, .int .u8 b, .int .i64 k, .bool user] [] (fun v B => v = .bool true ∧ B = []) := by
  have h1 := @bitR_or (a % 16) (b % 16) (by omega) (by omega) _ (needR_cases k)
  have h2 := @bitR_or (a % 16) (b % 16) (by omega) (by omega) 8 (by simp)
  refine spec_body Try.func5 Try.ntmps5 rfl rfl ?_
  refine x_seq ?_
  refine x_region ?_
  refine s_val rfl (v_assign rfl) ?_
  refine x_nil ?_
  refine n_then ?_
  refine x_seq ?_
  refine x_region ?_
  refine s_val rfl (v_move rfl) ?_
  refine s_val rfl (v_rem rfl rfl (by decide) rem16) ?_
  refine s_val rfl (v_conv Try.underlying5 Try.underlying3 rfl (by first | exact w64 (by omega) | rfl)) ?_
  refine s_val rfl (v_move rfl) ?_
  refine s_val rfl (v_rem rfl rfl (by decide) rem32) ?_
  refine s_val rfl (v_conv Try.underlying5 Try.underlying3 rfl (by first | exact w64 (by omega) | rfl)) ?_
  refine s_val rfl (v_build Try.underlying23 Try.zeroValue23 (sized_cons Try.sizeOf4 (sized_cons Try.sizeOf3 (sized_cons Try.sizeOf3 sized_nil))) (fil_scal rfl Try.sizeOf4 rfl rfl (Nat.le_of_ble_eq_true rfl) SetL.eq (fil_scal rfl Try.sizeOf3 rfl rfl (Nat.le_of_ble_eq_true rfl) SetL.eq (fil_scal rfl Try.sizeOf3 rfl rfl (Nat.le_of_ble_eq_true rfl) SetL.eq fil_nil)))) ?_
  refine s_do rfl (d_allocA Try.zeroValue23) ?_
  rintro _ _ ⟨b1, rfl, rfl⟩
  refine s_do0 (d_storeAll Try.sizeOf23 rfl rfl rfl rfl rfl) ?_
  rintro _ _ rfl
  refine x_nil ?_
  refine n_then ?_
  refine x_seq ?_
  refine x_region ?_
  refine s_val rfl (v_loadAll Try.isAgg23 Try.sizeOf23 rfl rfl) ?_
  refine s_do rfl (d_allocA Try.zeroValue23) ?_
  rintro _ _ ⟨b2, rfl, rfl⟩
  refine s_do0 (d_storeAll Try.sizeOf23 rfl rfl rfl rfl rfl) ?_
  rintro _ _ rfl
  refine x_nil ?_
  refine n_then ?_
  refine x_seq ?_
  refine x_region ?_
  refine s_val rfl (v_move rfl) ?_
  refine s_val rfl (v_rem rfl rfl (by decide) rem16) ?_
  refine s_val rfl (v_move rfl) ?_
  refine s_val rfl (v_rem rfl rfl (by decide) rem16) ?_
  refine s_val rfl (v_or rfl rfl (or_u8 (by omega) (by omega))) ?_
  refine s_val rfl (v_conv Try.underlying5 Try.underlying3 rfl (by have := @or_lt16 (a % 16) (b % 16) (by omega) (by omega); exact w64 (by omega))) ?_
  refine s_val rfl (v_fieldAddr rfl Try.underlying23 rfl Try.sizeOf3 rfl (by first | exact Nat.zero_add _ | rfl)) ?_
  refine s_do0 (d_store Try.sizeOf3 rfl rfl rfl (Nat.le_of_ble_eq_true rfl) SetL.eq) ?_
  rintro _ _ rfl
  refine x_nil ?_
  refine n_then ?_
  refine x_seq ?_
  refine x_seq ?_
  refine x_region ?_
  refine s_val rfl (v_loadAll Try.isAgg23 Try.sizeOf23 rfl rfl) ?_
  refine s_val rfl (v_move rfl) ?_
  refine s_val rfl (v_move rfl) ?_
  refine s_do rfl (d_call Try.call20 rfl (Allows_spec W0 _ _ _ _ k user)) ?_
  rintro _ _ ⟨rfl, rfl⟩
  refine s_val rfl (v_move rfl) ?_
  refine s_and rfl rfl rfl ?_ ?_
  · intro g4_5
    refine s_val rfl (v_loadAll Try.isAgg23 Try.sizeOf23 rfl rfl) ?_
    refine s_yes rfl rfl ?_
    refine s_val rfl (v_move rfl) ?_
    refine s_yes rfl rfl ?_
    refine s_val rfl (v_move rfl) ?_
    refine s_yes rfl rfl ?_
    refine s_do rfl (d_call Try.call20 rfl (Allows_spec W0 _ _ _ _ k user)) ?_
    rintro _ _ ⟨rfl, rfl⟩
    refine s_yes rfl rfl ?_
    refine s_val rfl (v_not rfl) ?_
    refine s_val rfl (v_pick_t rfl rfl) ?_
    refine s_val rfl (v_move rfl) ?_
    refine s_or rfl rfl rfl ?_ ?_
    · intro g4_12
      refine s_no rfl rfl rfl rfl ?_
      refine s_no rfl rfl rfl rfl ?_
      refine s_no rfl rfl rfl rfl ?_
      refine s_nou rfl rfl rfl ?_
      refine s_nou rfl rfl rfl ?_
      refine s_nou rfl rfl rfl ?_
      refine s_nou rfl rfl rfl ?_
      refine s_no rfl rfl rfl rfl ?_
      refine s_val rfl (v_pick_t rfl rfl) ?_
      refine x_nil ?_
      refine n_then ?_
      refine x_ift rfl ?_
      refine x_seq ?_
      refine x_region ?_
      refine s_val rfl (v_assign rfl) ?_
      refine x_nil ?_
      refine n_then ?_
      refine x_ret ?_
      refine r_then ?_
      refine x_done (.inl rfl) (.cons (r_tmp rfl) .nil) ?_
      refine ⟨_, ⟨?_, rfl⟩, inferInstance⟩
      first | rfl | (exfalso; clear hp ha hb; cases user <;> simp_all)
    · intro g4_12
      refine s_val rfl (v_loadAll Try.isAgg23 Try.sizeOf23 rfl rfl) ?_
      refine s_yes rfl rfl ?_
      refine s_val rfl (v_move rfl) ?_
      refine s_yes rfl rfl ?_
      refine s_do rfl (d_call Try.call20 rfl (Allows_spec W0 _ _ _ _ k true)) ?_
      rintro _ _ ⟨rfl, rfl⟩
      refine s_yes rfl rfl ?_
      refine s_val rfl (v_move rfl) ?_
      refine s_and rfl rfl rfl ?_ ?_
      · intro g4_16
        refine s_val rfl (v_loadAll Try.isAgg23 Try.sizeOf23 rfl rfl) ?_
        refine s_yes rfl rfl ?_
        refine s_val rfl (v_move rfl) ?_
        refine s_yes rfl rfl ?_
        refine s_do rfl (d_call Try.call20 rfl (Allows_spec W0 _ _ _ _ k false)) ?_
        rintro _ _ ⟨rfl, rfl⟩
        refine s_yes rfl rfl ?_
        refine s_val rfl (v_not rfl) ?_
        refine s_yes rfl rfl ?_
        refine s_val rfl (v_pick_t rfl rfl) ?_
        refine s_val rfl (v_pick_f rfl rfl) ?_
        refine x_nil ?_
        refine n_then ?_
        refine x_if rfl ?_ ?_
        · intro c4
          refine x_seq ?_
          refine x_region ?_
          refine s_val rfl (v_assign rfl) ?_
          refine x_nil ?_
          refine n_then ?_
          refine x_ret ?_
          refine r_then ?_
          refine x_done (.inl rfl) (.cons (r_tmp rfl) .nil) ?_
          refine ⟨_, ⟨?_, rfl⟩, inferInstance⟩
          first | rfl | (exfalso; clear hp ha hb; cases user <;> simp_all)
        · intro c4
          refine x_skip ?_
          refine n_then ?_
          refine x_seq ?_
          refine x_region ?_
          refine s_val rfl (v_fieldAddr rfl Try.underlying23 rfl Try.sizeOf4 rfl (by first | exact Nat.zero_add _ | rfl)) ?_
          refine s_do0 (d_store Try.sizeOf4 rfl rfl rfl (Nat.le_of_ble_eq_true rfl) SetL.eq) ?_
          rintro _ _ rfl
          refine x_nil ?_
          refine n_then ?_
          refine x_seq ?_
          refine x_region ?_
          refine s_val rfl (v_loadAll Try.isAgg23 Try.sizeOf23 rfl rfl) ?_
          refine s_val rfl (v_move rfl) ?_
          refine s_val rfl (v_move rfl) ?_
          refine s_do rfl (d_call Try.call20 rfl (Allows_spec W0 _ _ _ _ k user)) ?_
          rintro _ _ ⟨rfl, rfl⟩
          refine s_val rfl (v_not rfl) ?_
          refine s_val rfl (v_move rfl) ?_
          refine s_and rfl rfl rfl ?_ ?_
          · intro g7_6
            refine s_val rfl (v_build Try.underlying23 Try.zeroValue23 (sized_cons Try.sizeOf4 (sized_cons Try.sizeOf3 (sized_cons Try.sizeOf3 sized_nil))) fil_nil) ?_
            refine s_yes rfl rfl ?_
            refine s_val rfl (v_move rfl) ?_
            refine s_yes rfl rfl ?_
            refine s_val rfl (v_move rfl) ?_
            refine s_yes rfl rfl ?_
            refine s_do rfl (d_call Try.call20 rfl (Allows_spec W0 _ false 0 0 k user)) ?_
            rintro _ _ ⟨rfl, rfl⟩
            refine s_yes rfl rfl ?_
            refine s_val rfl (v_not rfl) ?_
            refine s_val rfl (v_pick_t rfl rfl) ?_
            refine s_val rfl (v_move rfl) ?_
            refine s_and rfl rfl rfl ?_ ?_
            · intro g7_13
              refine s_do rfl (d_call Try.call17 rfl (awake14_spec W0 _)) ?_
              rintro _ _ ⟨rfl, rfl⟩
              refine s_val rfl (v_pick_t rfl rfl) ?_
              refine s_val rfl (v_assign rfl) ?_
              refine x_nil ?_
              refine n_then ?_
              refine x_ret ?_
              refine x_done (.inl rfl) (.cons (r_tmp rfl) .nil) ?_
              refine ⟨_, ⟨?_, rfl⟩, inferInstance⟩
              first | rfl | (exfalso; clear hp ha hb; cases user <;> simp_all)
            · intro g7_13
              refine s_val rfl (v_pick_f rfl rfl) ?_
              refine s_val rfl (v_assign rfl) ?_
              refine x_nil ?_
              refine n_then ?_
              refine x_ret ?_
              refine x_done (.inl rfl) (.cons (r_tmp rfl) .nil) ?_
              refine ⟨_, ⟨?_, rfl⟩, inferInstance⟩
              first | rfl | (exfalso; clear hp ha hb; cases user <;> simp_all)
          · intro g7_6
            refine s_no rfl rfl rfl rfl ?_
            refine s_no rfl rfl rfl rfl ?_
            refine s_no rfl rfl rfl rfl ?_
            refine s_no rfl rfl rfl rfl ?_
            refine s_val rfl (v_pick_f rfl rfl) ?_
            refine s_val rfl (v_move rfl) ?_
            refine s_no rfl rfl rfl rfl ?_
            refine s_val rfl (v_pick_f rfl rfl) ?_
            refine s_val rfl (v_assign rfl) ?_
            refine x_nil ?_
            refine n_then ?_
            refine x_ret ?_
            refine x_done (.inl rfl) (.cons (r_tmp rfl) .nil) ?_
            refine ⟨_, ⟨?_, rfl⟩, inferInstance⟩
            first | rfl | (exfalso; clear hp ha hb; cases user <;> simp_all)
      · intro g4_16
        refine s_no rfl rfl rfl rfl ?_
        refine s_no rfl rfl rfl rfl ?_
        refine s_no rfl rfl rfl rfl ?_
        refine s_yes rfl rfl ?_
        refine s_val rfl (v_pick_f rfl rfl) ?_
        refine s_val rfl (v_pick_f rfl rfl) ?_
        refine x_nil ?_
        refine n_then ?_
        refine x_iff rfl ?_
        refine x_skip ?_
        refine n_then ?_
        refine x_seq ?_
        refine x_region ?_
        refine s_val rfl (v_fieldAddr rfl Try.underlying23 rfl Try.sizeOf4 rfl (by first | exact Nat.zero_add _ | rfl)) ?_
        refine s_do0 (d_store Try.sizeOf4 rfl rfl rfl (Nat.le_of_ble_eq_true rfl) SetL.eq) ?_
        rintro _ _ rfl
        refine x_nil ?_
        refine n_then ?_
        refine x_seq ?_
        refine x_region ?_
        refine s_val rfl (v_loadAll Try.isAgg23 Try.sizeOf23 rfl rfl) ?_
        refine s_val rfl (v_move rfl) ?_
        refine s_val rfl (v_move rfl) ?_
        refine s_do rfl (d_call Try.call20 rfl (Allows_spec W0 _ _ _ _ k user)) ?_
        rintro _ _ ⟨rfl, rfl⟩
        refine s_val rfl (v_not rfl) ?_
        refine s_val rfl (v_move rfl) ?_
        refine s_and rfl rfl rfl ?_ ?_
        · intro g7_6
          refine s_val rfl (v_build Try.underlying23 Try.zeroValue23 (sized_cons Try.sizeOf4 (sized_cons Try.sizeOf3 (sized_cons Try.sizeOf3 sized_nil))) fil_nil) ?_
          refine s_yes rfl rfl ?_
          refine s_val rfl (v_move rfl) ?_
          refine s_yes rfl rfl ?_
          refine s_val rfl (v_move rfl) ?_
          refine s_yes rfl rfl ?_
          refine s_do rfl (d_call Try.call20 rfl (Allows_spec W0 _ false 0 0 k user)) ?_
          rintro _ _ ⟨rfl, rfl⟩
          refine s_yes rfl rfl ?_
          refine s_val rfl (v_not rfl) ?_
          refine s_val rfl (v_pick_t rfl rfl) ?_
          refine s_val rfl (v_move rfl) ?_
          refine s_and rfl rfl rfl ?_ ?_
          · intro g7_13
            refine s_do rfl (d_call Try.call17 rfl (awake14_spec W0 _)) ?_
            rintro _ _ ⟨rfl, rfl⟩
            refine s_val rfl (v_pick_t rfl rfl) ?_
            refine s_val rfl (v_assign rfl) ?_
            refine x_nil ?_
            refine n_then ?_
            refine x_ret ?_
            refine x_done (.inl rfl) (.cons (r_tmp rfl) .nil) ?_
            refine ⟨_, ⟨?_, rfl⟩, inferInstance⟩
            first | rfl | (exfalso; clear hp ha hb; cases user <;> simp_all)
          · intro g7_13
            refine s_val rfl (v_pick_f rfl rfl) ?_
            refine s_val rfl (v_assign rfl) ?_
            refine x_nil ?_
            refine n_then ?_
            refine x_ret ?_
            refine x_done (.inl rfl) (.cons (r_tmp rfl) .nil) ?_
            refine ⟨_, ⟨?_, rfl⟩, inferInstance⟩
            first | rfl | (exfalso; clear hp ha hb; cases user <;> simp_all)
        · intro g7_6
          refine s_no rfl rfl rfl rfl ?_
          refine s_no rfl rfl rfl rfl ?_
          refine s_no rfl rfl rfl rfl ?_
          refine s_no rfl rfl rfl rfl ?_
          refine s_val rfl (v_pick_f rfl rfl) ?_
          refine s_val rfl (v_move rfl) ?_
          refine s_no rfl rfl rfl rfl ?_
          refine s_val rfl (v_pick_f rfl rfl) ?_
          refine s_val rfl (v_assign rfl) ?_
          refine x_nil ?_
          refine n_then ?_
          refine x_ret ?_
          refine x_done (.inl rfl) (.cons (r_tmp rfl) .nil) ?_
          refine ⟨_, ⟨?_, rfl⟩, inferInstance⟩
          first | rfl | (exfalso; clear hp ha hb; cases user <;> simp_all)
  · intro g4_5
    refine s_no rfl rfl rfl rfl ?_
    refine s_no rfl rfl rfl rfl ?_
    refine s_no rfl rfl rfl rfl ?_
    refine s_no rfl rfl rfl rfl ?_
    refine s_val rfl (v_pick_f rfl rfl) ?_
    refine s_val rfl (v_move rfl) ?_
    refine s_yes rfl rfl ?_
    refine s_val rfl (v_loadAll Try.isAgg23 Try.sizeOf23 rfl rfl) ?_
    refine s_yes rfl rfl ?_
    refine s_val rfl (v_move rfl) ?_
    refine s_yes rfl rfl ?_
    refine s_do rfl (d_call Try.call20 rfl (Allows_spec W0 _ _ _ _ k true)) ?_
    rintro _ _ ⟨rfl, rfl⟩
    refine s_yes rfl rfl ?_
    refine s_val rfl (v_move rfl) ?_
    refine s_and rfl rfl rfl ?_ ?_
    · intro g4_16
      refine s_val rfl (v_loadAll Try.isAgg23 Try.sizeOf23 rfl rfl) ?_
      refine s_yes rfl rfl ?_
      refine s_val rfl (v_move rfl) ?_
      refine s_yes rfl rfl ?_
      refine s_do rfl (d_call Try.call20 rfl (Allows_spec W0 _ _ _ _ k false)) ?_
      rintro _ _ ⟨rfl, rfl⟩
      refine s_yes rfl rfl ?_
      refine s_val rfl (v_not rfl) ?_
      refine s_yes rfl rfl ?_
      refine s_val rfl (v_pick_t rfl rfl) ?_
      refine s_val rfl (v_pick_f rfl rfl) ?_
      refine x_nil ?_
      refine n_then ?_
      refine x_if rfl ?_ ?_
      · intro c4
        refine x_seq ?_
        refine x_region ?_
        refine s_val rfl (v_assign rfl) ?_
        refine x_nil ?_
        refine n_then ?_
        refine x_ret ?_
        refine r_then ?_
        refine x_done (.inl rfl) (.cons (r_tmp rfl) .nil) ?_
        refine ⟨_, ⟨?_, rfl⟩, inferInstance⟩
        first | rfl | (exfalso; clear hp ha hb; cases user <;> simp_all)
      · intro c4
        refine x_skip ?_
        refine n_then ?_
        refine x_seq ?_
        refine x_region ?_
        refine s_val rfl (v_fieldAddr rfl Try.underlying23 rfl Try.sizeOf4 rfl (by first | exact Nat.zero_add _ | rfl)) ?_
        refine s_do0 (d_store Try.sizeOf4 rfl rfl rfl (Nat.le_of_ble_eq_true rfl) SetL.eq) ?_
        rintro _ _ rfl
        refine x_nil ?_
        refine n_then ?_
        refine x_seq ?_
        refine x_region ?_
        refine s_val rfl (v_loadAll Try.isAgg23 Try.sizeOf23 rfl rfl) ?_
        refine s_val rfl (v_move rfl) ?_
        refine s_val rfl (v_move rfl) ?_
        refine s_do rfl (d_call Try.call20 rfl (Allows_spec W0 _ _ _ _ k user)) ?_
        rintro _ _ ⟨rfl, rfl⟩
        refine s_val rfl (v_not rfl) ?_
        refine s_val rfl (v_move rfl) ?_
        refine s_and rfl rfl rfl ?_ ?_
        · intro g7_6
          refine s_val rfl (v_build Try.underlying23 Try.zeroValue23 (sized_cons Try.sizeOf4 (sized_cons Try.sizeOf3 (sized_cons Try.sizeOf3 sized_nil))) fil_nil) ?_
          refine s_yes rfl rfl ?_
          refine s_val rfl (v_move rfl) ?_
          refine s_yes rfl rfl ?_
          refine s_val rfl (v_move rfl) ?_
          refine s_yes rfl rfl ?_
          refine s_do rfl (d_call Try.call20 rfl (Allows_spec W0 _ false 0 0 k user)) ?_
          rintro _ _ ⟨rfl, rfl⟩
          refine s_yes rfl rfl ?_
          refine s_val rfl (v_not rfl) ?_
          refine s_val rfl (v_pick_t rfl rfl) ?_
          refine s_val rfl (v_move rfl) ?_
          refine s_and rfl rfl rfl ?_ ?_
          · intro g7_13
            refine s_do rfl (d_call Try.call17 rfl (awake14_spec W0 _)) ?_
            rintro _ _ ⟨rfl, rfl⟩
            refine s_val rfl (v_pick_t rfl rfl) ?_
            refine s_val rfl (v_assign rfl) ?_
            refine x_nil ?_
            refine n_then ?_
            refine x_ret ?_
            refine x_done (.inl rfl) (.cons (r_tmp rfl) .nil) ?_
            refine ⟨_, ⟨?_, rfl⟩, inferInstance⟩
            first | rfl | (exfalso; clear hp ha hb; cases user <;> simp_all)
          · intro g7_13
            refine s_val rfl (v_pick_f rfl rfl) ?_
            refine s_val rfl (v_assign rfl) ?_
            refine x_nil ?_
            refine n_then ?_
            refine x_ret ?_
            refine x_done (.inl rfl) (.cons (r_tmp rfl) .nil) ?_
            refine ⟨_, ⟨?_, rfl⟩, inferInstance⟩
            first | rfl | (exfalso; clear hp ha hb; cases user <;> simp_all)
        · intro g7_6
          refine s_no rfl rfl rfl rfl ?_
          refine s_no rfl rfl rfl rfl ?_
          refine s_no rfl rfl rfl rfl ?_
          refine s_no rfl rfl rfl rfl ?_
          refine s_val rfl (v_pick_f rfl rfl) ?_
          refine s_val rfl (v_move rfl) ?_
          refine s_no rfl rfl rfl rfl ?_
          refine s_val rfl (v_pick_f rfl rfl) ?_
          refine s_val rfl (v_assign rfl) ?_
          refine x_nil ?_
          refine n_then ?_
          refine x_ret ?_
          refine x_done (.inl rfl) (.cons (r_tmp rfl) .nil) ?_
          refine ⟨_, ⟨?_, rfl⟩, inferInstance⟩
          first | rfl | (exfalso; clear hp ha hb; cases user <;> simp_all)
    · intro g4_16
      refine s_no rfl rfl rfl rfl ?_
      refine s_no rfl rfl rfl rfl ?_
      refine s_no rfl rfl rfl rfl ?_
      refine s_yes rfl rfl ?_
      refine s_val rfl (v_pick_f rfl rfl) ?_
      refine s_val rfl (v_pick_f rfl rfl) ?_
      refine x_nil ?_
      refine n_then ?_
      refine x_iff rfl ?_
      refine x_skip ?_
      refine n_then ?_
      refine x_seq ?_
      refine x_region ?_
      refine s_val rfl (v_fieldAddr rfl Try.underlying23 rfl Try.sizeOf4 rfl (by first | exact Nat.zero_add _ | rfl)) ?_
      refine s_do0 (d_store Try.sizeOf4 rfl rfl rfl (Nat.le_of_ble_eq_true rfl) SetL.eq) ?_
      rintro _ _ rfl
      refine x_nil ?_
      refine n_then ?_
      refine x_seq ?_
      refine x_region ?_
      refine s_val rfl (v_loadAll Try.isAgg23 Try.sizeOf23 rfl rfl) ?_
      refine s_val rfl (v_move rfl) ?_
      refine s_val rfl (v_move rfl) ?_
      refine s_do rfl (d_call Try.call20 rfl (Allows_spec W0 _ _ _ _ k user)) ?_
      rintro _ _ ⟨rfl, rfl⟩
      refine s_val rfl (v_not rfl) ?_
      refine s_val rfl (v_move rfl) ?_
      refine s_and rfl rfl rfl ?_ ?_
      · intro g7_6
        refine s_val rfl (v_build Try.underlying23 Try.zeroValue23 (sized_cons Try.sizeOf4 (sized_cons Try.sizeOf3 (sized_cons Try.sizeOf3 sized_nil))) fil_nil) ?_
        refine s_yes rfl rfl ?_
        refine s_val rfl (v_move rfl) ?_
        refine s_yes rfl rfl ?_
        refine s_val rfl (v_move rfl) ?_
        refine s_yes rfl rfl ?_
        refine s_do rfl (d_call Try.call20 rfl (Allows_spec W0 _ false 0 0 k user)) ?_
        rintro _ _ ⟨rfl, rfl⟩
        refine s_yes rfl rfl ?_
        refine s_val rfl (v_not rfl) ?_
        refine s_val rfl (v_pick_t rfl rfl) ?_
        refine s_val rfl (v_move rfl) ?_
        refine s_and rfl rfl rfl ?_ ?_
        · intro g7_13
          refine s_do rfl (d_call Try.call17 rfl (awake14_spec W0 _)) ?_
          rintro _ _ ⟨rfl, rfl⟩
          refine s_val rfl (v_pick_t rfl rfl) ?_
          refine s_val rfl (v_assign rfl) ?_
          refine x_nil ?_
          refine n_then ?_
          refine x_ret ?_
          refine x_done (.inl rfl) (.cons (r_tmp rfl) .nil) ?_
          refine ⟨_, ⟨?_, rfl⟩, inferInstance⟩
          first | rfl | (exfalso; clear hp ha hb; cases user <;> simp_all)
        · intro g7_13
          refine s_val rfl (v_pick_f rfl rfl) ?_
          refine s_val rfl (v_assign rfl) ?_
          refine x_nil ?_
          refine n_then ?_
          refine x_ret ?_
          refine x_done (.inl rfl) (.cons (r_tmp rfl) .nil) ?_
          refine ⟨_, ⟨?_, rfl⟩, inferInstance⟩
          first | rfl | (exfalso; clear hp ha hb; cases user <;> simp_all)
      · intro g7_6
        refine s_no rfl rfl rfl rfl ?_
        refine s_no rfl rfl rfl rfl ?_
        refine s_no rfl rfl rfl rfl ?_
        refine s_no rfl rfl rfl rfl ?_
        refine s_val rfl (v_pick_f rfl rfl) ?_
        refine s_val rfl (v_move rfl) ?_
        refine s_no rfl rfl rfl rfl ?_
        refine s_val rfl (v_pick_f rfl rfl) ?_
        refine s_val rfl (v_assign rfl) ?_
        refine x_nil ?_
        refine n_then ?_
        refine x_ret ?_
        refine x_done (.inl rfl) (.cons (r_tmp rfl) .nil) ?_
        refine ⟨_, ⟨?_, rfl⟩, inferInstance⟩
        first | rfl | (exfalso; clear hp ha hb; cases user <;> simp_all)

end Go.Proofs.Ytpmacnfjafpdcaa
