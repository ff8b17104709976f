/-
  Layer 17 (walk): the walks of WalkPlays and WalkFlat.
-/
import Derived.Test.YtpmacnfjafpdcabWalkLaw
namespace Go.Proofs.Ytpmacnfjafpdcab
open Go.RowKit
set_option linter.unusedSimpArgs false
set_option linter.unusedVariables false
set_option maxRecDepth 20000

@[reducible] def u4V (x : Nat) : List Value := [.int .u32 x]
theorem WalkPlays_walk (W0 : World) (gone : Nat) (hg : gone < 65536) (al ah : Option Addr) (cl ch : Nat) (ts : List Pt17) (on : Bool) (root : Int) (user : Bool) (vas : List Nat) (kind : Int) (hts : SlB W0 al 2 pt17V ts) (htok : ∀ t ∈ ts, Pt17Ok t) (hl : ts.length < 9223372036854775808) (hh : SlB W0 ah 1 u4V vas) (hvs : ∀ x ∈ vas, x < 4294967296) (hl2 : vas.length < 9223372036854775808) :
    Spec Try.prog W0 4 [.int .u16 gone, .slice al ts.length cl, .agg (moV on root user).toArray, .slice ah vas.length ch, .int .i64 kind] [] (fun v B => v = .bool true ∧ B = []) := by
  have hP := pg17_ok gone 10
  obtain ⟨hF, _, _⟩ := mk17_ok gone ts
  refine spec_body Try.func4 Try.ntmps4 rfl rfl ?_
  refine x_seq ?_
  refine x_region ?_
  refine s_do rfl (d_boxA rfl) ?_
  rintro _ _ ⟨b1, rfl, rfl⟩
  refine s_val rfl (v_assign rfl) ?_
  refine x_nil ?_
  refine n_then ?_
  refine x_seq ?_
  refine x_region ?_
  refine s_val rfl (v_move rfl) ?_
  refine s_val rfl (v_move rfl) ?_
  refine s_do rfl (d_call Try.call11 rfl (made17_spec W0 _ gone hg _ _ ts (sla_base hts) htok hl)) ?_
  rintro _ B_ ⟨pv, ps, pm, qv, qs, qm, rfl, hB_⟩
  obtain rfl := hB_.symm
  generalize (mk17 gone ts).1 = fr at hF
  generalize (mk17 gone ts).2 = dd
  generalize pg17 gone 10 = pg at hP
  refine s_val rfl (v_move rfl) ?_
  refine s_val rfl (v_extract rfl rfl) ?_
  refine s_val rfl (v_extract rfl rfl) ?_
  refine s_val rfl (v_assign rfl) ?_
  refine s_val rfl (v_assign rfl) ?_
  refine x_nil ?_
  refine n_then ?_
  refine x_seq ?_
  refine x_seq ?_
  refine x_region ?_
  refine s_val rfl (v_move rfl) ?_
  refine s_val rfl (v_eql_ptr_nil Try.underlying23 rfl rfl) ?_
  refine s_val rfl (v_move rfl) ?_
  refine s_or rfl rfl rfl ?_ ?_
  · intro g2_3
    cases g2_3
  · intro g2_3
    refine s_val rfl (v_move rfl) ?_
    refine s_yes rfl rfl ?_
    refine s_val rfl (v_eql_ptr_nil Try.underlying24 rfl rfl) ?_
    refine s_val rfl (v_pick_f rfl rfl) ?_
    refine x_nil ?_
    refine n_then ?_
    refine x_if rfl ?_ ?_
    · intro c2
      cases c2
    · intro c2
      refine x_skip ?_
      refine n_then ?_
      refine x_seq ?_
      refine x_seq ?_
      refine x_region ?_
      refine s_val rfl (v_assign rfl) ?_
      refine x_nil ?_
      refine n_then ?_
      refine x_block ?_
      refine x_loop (fun i : Nat => i ≤ vas.length) (fun i => [(3, .slice ah vas.length ch), (4, .int .i64 kind), (7, .pointer (some ⟨b1, 0, none⟩)), (11, .pointer (some ⟨pv, 0, none⟩)), (12, .pointer (some ⟨qv, 0, none⟩)), (13, .int .i64 i)]) (fun i => pt b1 (cob (moV on root user) 38) :: prH pv ps pm qv qs qm dd fr pg []) (fun i => 60 - i) 0 ?_ ?_ ?_ ?_
      · exact Nat.zero_le _
      · repeat (first | exact sub_nil | refine sub_cons rfl ?_)
      · exact inferInstance
      · intro i hi
        refine x_seq ?_
        refine x_seq ?_
        refine x_region ?_
        refine s_val rfl (v_move rfl) ?_
        refine s_val rfl (v_move rfl) ?_
        refine s_val rfl (v_len_slice Try.underlying39 rfl) ?_
        refine s_val rfl (v_lss rfl rfl) ?_
        refine s_val rfl (v_move rfl) ?_
        refine s_and rfl rfl rfl ?_ ?_
        · intro g5_5
          refine s_val rfl (v_move rfl) ?_
          refine s_yes rfl rfl ?_
          refine s_val rfl (v_lss rfl rfl) ?_
          refine s_val rfl (v_pick_t rfl rfl) ?_
          refine x_nil ?_
          refine n_then ?_
          refine x_if rfl ?_ ?_
          · intro c5
            refine x_skip ?_
            refine n_then ?_
            refine x_seq ?_
            refine x_block ?_
            refine x_seq ?_
            have hi1 : i < vas.length := by omega
            have hva := hvs _ (List.getElem_mem hi1)
            obtain ⟨g, o, rfl, hc⟩ := hh i vas[i] (by simp [hi1])
            obtain ⟨va, hvi⟩ : ∃ x, vas[i] = x := ⟨_, rfl⟩
            rw [hvi] at hc hva
            refine x_draw [(b1, 0, _), (g, o + i * 1, u4V va)] 14 mixed rfl (sc_own (sc_cons (hc _) sc_end)) (fun hS => ?_)
            refine d_take 0 rfl rfl (by kernel_rfl) (by kernel_rfl) (by kernel_rfl) rfl hS (v_move rfl) ?_
            refine d_take 1 rfl rfl (by kernel_rfl) (by kernel_rfl) (by kernel_rfl) rfl hS (v_loadAgg Try.isAgg38 Try.sizeOf38 rfl (by first | exact cells_sc (k := 0) rfl | exact cells_sc (k := 1) rfl) rfl) ?_
            refine d_take 2 rfl rfl (by kernel_rfl) (by kernel_rfl) (by kernel_rfl) rfl hS (v_move rfl) ?_
            refine d_take 3 rfl rfl (by kernel_rfl) (by kernel_rfl) (by kernel_rfl) rfl hS (v_move rfl) ?_
            refine d_take 4 rfl rfl (by kernel_rfl) (by kernel_rfl) (by kernel_rfl) rfl hS (v_idx Try.underlying39 Try.sizeOf28 rfl rfl rfl hi1 (by first | exact Nat.zero_add _ | rfl)) ?_
            refine d_take 5 rfl rfl (by kernel_rfl) (by kernel_rfl) (by kernel_rfl) rfl hS (v_load Try.isAgg28 rfl (cell_sc1 (k := 1) rfl)) ?_
            refine d_take 6 rfl rfl (by kernel_rfl) (by kernel_rfl) (by kernel_rfl) rfl hS (v_move rfl) ?_
            refine d_all (is := [7, 11]) (by kernel_rfl) rfl ⟨?_, ?_, trivial⟩
            · skip
              refine dx_one rfl rfl (d_call3 Try.call12 rfl (wkFind_spec W0 _ pv ps pm dd fr pg hP hF on root user va hva kind)) rfl ?_; clear hS
              rintro _ B_ ⟨rfl, hB_⟩
              obtain rfl := hB_.symm
              refine ⟨(sc_own (sc_cons (hc _) sc_end)), fun hS => ?_⟩
              refine d_take 8 rfl rfl (by kernel_rfl) (by kernel_rfl) (by kernel_rfl) rfl hS (v_move rfl) ?_
              refine d_take 9 rfl rfl (by kernel_rfl) (by kernel_rfl) (by kernel_rfl) rfl hS (v_extract rfl rfl) ?_
              refine d_take 10 rfl rfl (by kernel_rfl) (by kernel_rfl) (by kernel_rfl) rfl hS (v_extract rfl rfl) ?_
              refine d_one 11 (by kernel_rfl) rfl rfl (d_allocA Try.zeroValue42) rfl ?_; clear hS
              rintro _ _ ⟨bh, rfl, rfl⟩
              refine ⟨(sc_own (sc_cons (hc _) sc_end)), fun hS => ?_⟩
              refine d_one 12 (by kernel_rfl) rfl rfl (d_storeAll Try.sizeOf42 rfl rfl rfl rfl rfl) rfl ?_; clear hS
              rintro _ _ rfl
              refine ⟨(sc_own (sc_cons (hc _) sc_end)), fun hS => ?_⟩
              refine d_take 13 rfl rfl (by kernel_rfl) (by kernel_rfl) (by kernel_rfl) rfl hS (v_assign rfl) ?_
              refine d_done (by kernel_rfl) ?_; clear hS
              refine n_then ?_
              refine x_seq ?_
              refine x_draw [(b1, 0, _), (g, o + i * 1, u4V va)] 14 mixed rfl (sc_own (sc_cons (hc _) sc_end)) (fun hS => ?_)
              refine d_take 0 rfl rfl (by kernel_rfl) (by kernel_rfl) (by kernel_rfl) rfl hS (v_move rfl) ?_
              refine d_take 1 rfl rfl (by kernel_rfl) (by kernel_rfl) (by kernel_rfl) rfl hS (v_loadAgg Try.isAgg38 Try.sizeOf38 rfl (by first | exact cells_sc (k := 0) rfl | exact cells_sc (k := 1) rfl) rfl) ?_
              refine d_take 2 rfl rfl (by kernel_rfl) (by kernel_rfl) (by kernel_rfl) rfl hS (v_move rfl) ?_
              refine d_take 3 rfl rfl (by kernel_rfl) (by kernel_rfl) (by kernel_rfl) rfl hS (v_move rfl) ?_
              refine d_take 4 rfl rfl (by kernel_rfl) (by kernel_rfl) (by kernel_rfl) rfl hS (v_idx Try.underlying39 Try.sizeOf28 rfl rfl rfl hi1 (by first | exact Nat.zero_add _ | rfl)) ?_
              refine d_take 5 rfl rfl (by kernel_rfl) (by kernel_rfl) (by kernel_rfl) rfl hS (v_load Try.isAgg28 rfl (cell_sc1 (k := 1) rfl)) ?_
              refine d_take 6 rfl rfl (by kernel_rfl) (by kernel_rfl) (by kernel_rfl) rfl hS (v_move rfl) ?_
              refine d_all (is := [7, 11]) (by kernel_rfl) rfl ⟨?_, ?_, trivial⟩
              · skip
                refine dx_one rfl rfl (d_call3 Try.call13 rfl (rwFind_spec W0 _ qv qs qm dd fr pg hP hF on root user va hva kind)) rfl ?_; clear hS
                rintro _ B_ ⟨rfl, hB_⟩
                obtain rfl := hB_.symm
                refine ⟨(sc_own (sc_cons (hc _) sc_end)), fun hS => ?_⟩
                refine d_take 8 rfl rfl (by kernel_rfl) (by kernel_rfl) (by kernel_rfl) rfl hS (v_move rfl) ?_
                refine d_take 9 rfl rfl (by kernel_rfl) (by kernel_rfl) (by kernel_rfl) rfl hS (v_extract rfl rfl) ?_
                refine d_take 10 rfl rfl (by kernel_rfl) (by kernel_rfl) (by kernel_rfl) rfl hS (v_extract rfl rfl) ?_
                refine d_one 11 (by kernel_rfl) rfl rfl (d_allocA Try.zeroValue42) rfl ?_; clear hS
                rintro _ _ ⟨bk, rfl, rfl⟩
                refine ⟨(sc_own (sc_cons (hc _) sc_end)), fun hS => ?_⟩
                refine d_one 12 (by kernel_rfl) rfl rfl (d_storeAll Try.sizeOf42 rfl rfl rfl rfl rfl) rfl ?_; clear hS
                rintro _ _ rfl
                refine ⟨(sc_own (sc_cons (hc _) sc_end)), fun hS => ?_⟩
                refine d_take 13 rfl rfl (by kernel_rfl) (by kernel_rfl) (by kernel_rfl) rfl hS (v_assign rfl) ?_
                refine d_done (by kernel_rfl) ?_; clear hS
                refine n_then ?_
                refine x_seq ?_
                refine x_draw [(b1, 0, _), (bh, 0, _), (bk, 0, _), (g, o + i * 1, u4V va)] 27 mixed rfl (sc_own (sc_own (sc_own (sc_cons (hc _) sc_end)))) (fun hS => ?_)
                refine d_take 0 rfl rfl (by kernel_rfl) (by kernel_rfl) (by kernel_rfl) rfl hS (v_move rfl) ?_
                refine d_take 1 rfl rfl (by kernel_rfl) (by kernel_rfl) (by kernel_rfl) rfl hS (v_fieldAddr rfl Try.underlying38 rfl Try.sizeOf3 rfl (by first | exact Nat.zero_add _ | rfl)) ?_
                refine d_take 2 rfl rfl (by kernel_rfl) (by kernel_rfl) (by kernel_rfl) rfl hS (v_load Try.isAgg3 rfl (by first | exact cell_sc0 (k := 0) rfl rfl | exact cell_sc0 (k := 1) rfl rfl | exact cell_sc0 (k := 2) rfl rfl | exact cell_sc0 (k := 3) rfl rfl)) ?_
                refine d_take 3 rfl rfl (by kernel_rfl) (by kernel_rfl) (by kernel_rfl) rfl hS (v_move rfl) ?_
                refine d_take 4 rfl rfl (by kernel_rfl) (by kernel_rfl) (by kernel_rfl) rfl hS (v_move rfl) ?_
                refine d_take 5 rfl rfl (by kernel_rfl) (by kernel_rfl) (by kernel_rfl) rfl hS (v_idx Try.underlying39 Try.sizeOf28 rfl rfl rfl hi1 (by first | exact Nat.zero_add _ | rfl)) ?_
                refine d_take 6 rfl rfl (by kernel_rfl) (by kernel_rfl) (by kernel_rfl) rfl hS (v_load Try.isAgg28 rfl (cell_sc1 (k := 3) rfl)) ?_
                refine d_take 8 rfl rfl (by kernel_rfl) (by kernel_rfl) (by kernel_rfl) rfl hS (v_move rfl) ?_
                refine d_take 9 rfl rfl (by kernel_rfl) (by kernel_rfl) (by kernel_rfl) rfl hS (v_fieldAddr rfl Try.underlying38 rfl Try.sizeOf3 rfl (by first | exact Nat.zero_add _ | rfl)) ?_
                refine d_take 10 rfl rfl (by kernel_rfl) (by kernel_rfl) (by kernel_rfl) rfl hS (v_load Try.isAgg3 rfl (by first | exact cell_sc0 (k := 0) rfl rfl | exact cell_sc0 (k := 1) rfl rfl | exact cell_sc0 (k := 2) rfl rfl | exact cell_sc0 (k := 3) rfl rfl)) ?_
                refine d_take 11 rfl rfl (by kernel_rfl) (by kernel_rfl) (by kernel_rfl) rfl hS (v_move rfl) ?_
                refine d_take 12 rfl rfl (by kernel_rfl) (by kernel_rfl) (by kernel_rfl) rfl hS (v_move rfl) ?_
                refine d_take 13 rfl rfl (by kernel_rfl) (by kernel_rfl) (by kernel_rfl) rfl hS (v_idx Try.underlying39 Try.sizeOf28 rfl rfl rfl hi1 (by first | exact Nat.zero_add _ | rfl)) ?_
                refine d_take 14 rfl rfl (by kernel_rfl) (by kernel_rfl) (by kernel_rfl) rfl hS (v_load Try.isAgg28 rfl (cell_sc1 (k := 3) rfl)) ?_
                refine d_one 7 (by kernel_rfl) rfl rfl (d_call3 Try.call14 rfl (wkWalk_spec W0 _ pv ps pm dd fr pg hP hF root va hva)) rfl ?_; clear hS
                rintro _ B_ ⟨rfl, hB_⟩
                obtain rfl := hB_.symm
                refine ⟨(sc_own (sc_own (sc_own (sc_cons (hc _) sc_end)))), fun hS => ?_⟩
                refine d_one 15 (by kernel_rfl) rfl rfl (d_call3 Try.call15 rfl (rwWalk_spec W0 _ qv qs qm dd fr pg hP hF root va hva)) rfl ?_; clear hS
                rintro _ B_ ⟨rfl, hB_⟩
                obtain rfl := hB_.symm
                refine ⟨(sc_own (sc_own (sc_own (sc_cons (hc _) sc_end)))), fun hS => ?_⟩
                refine d_take 16 rfl rfl (by kernel_rfl) (by kernel_rfl) (by kernel_rfl) rfl hS (v_neq_agg Try.eqGuardType49 rfl rfl (q_struct Try.underlying49 Try.stoodInHeld49 (qf_gen rfl (part_agg Try.isAgg47 Try.sizeOf47 TakeL.eq) (part_agg Try.isAgg47 Try.sizeOf47 TakeL.eq) (q_struct Try.underlying47 Try.stoodInHeld47 (qf_scal rfl Try.isAgg4 rfl rfl (q_bool Try.underlying4) (qf_scal rfl Try.isAgg3 rfl rfl (q_int Try.underlying3) (qf_scal rfl Try.isAgg3 rfl rfl (q_int Try.underlying3) qf_nil)))) (qf_scal rfl Try.isAgg3 rfl rfl (q_int Try.underlying3) (qf_scal rfl Try.isAgg3 rfl rfl (q_int Try.underlying3) (qf_scal rfl Try.isAgg3 rfl rfl (q_int Try.underlying3) qf_nil)))))) ?_
                refine d_take 17 rfl rfl (by kernel_rfl) (by kernel_rfl) (by kernel_rfl) rfl hS (v_move rfl) ?_
                refine x_split (t := 79) rfl ?_ ?_
                · intro g9_18
                  exact absurd g9_18 (by simp)
                · intro g9_18
                  refine d_take 18 rfl rfl (by kernel_rfl) (by kernel_rfl) (by kernel_rfl) rfl hS (v_loadAgg Try.isAgg42 Try.sizeOf42 rfl (by first | exact cells_sc (k := 0) rfl | exact cells_sc (k := 1) rfl | exact cells_sc (k := 2) rfl | exact cells_sc (k := 3) rfl) rfl) ?_
                  refine d_take 19 rfl rfl (by kernel_rfl) (by kernel_rfl) (by kernel_rfl) rfl hS (v_loadAgg Try.isAgg42 Try.sizeOf42 rfl (by first | exact cells_sc (k := 0) rfl | exact cells_sc (k := 1) rfl | exact cells_sc (k := 2) rfl | exact cells_sc (k := 3) rfl) rfl) ?_
                  refine d_take 20 rfl rfl (by kernel_rfl) (by kernel_rfl) (by kernel_rfl) rfl hS (v_neq_agg Try.eqGuardType42 rfl rfl (q_struct Try.underlying42 Try.stoodInHeld42 (qf_scal rfl Try.isAgg3 rfl rfl (q_int Try.underlying3) (qf_scal rfl Try.isAgg3 rfl rfl (q_int Try.underlying3) (qf_scal rfl Try.isAgg3 rfl rfl (q_int Try.underlying3) (qf_scal rfl Try.isAgg4 rfl rfl (q_bool Try.underlying4) qf_nil)))))) ?_
                  refine d_take 21 rfl rfl (by kernel_rfl) (by kernel_rfl) (by kernel_rfl) rfl hS (v_pick_f rfl rfl) ?_
                  refine d_take 22 rfl rfl (by kernel_rfl) (by kernel_rfl) (by kernel_rfl) rfl hS (v_move rfl) ?_
                  refine x_split (t := 84) rfl ?_ ?_
                  · intro g9_23
                    exact absurd g9_23 (by simp)
                  · intro g9_23
                    refine d_take 23 rfl rfl (by kernel_rfl) (by kernel_rfl) (by kernel_rfl) rfl hS (v_move rfl) ?_
                    refine d_take 24 rfl rfl (by kernel_rfl) (by kernel_rfl) (by kernel_rfl) rfl hS (v_move rfl) ?_
                    refine d_take 25 rfl rfl (by kernel_rfl) (by kernel_rfl) (by kernel_rfl) rfl hS (v_neq rfl rfl) ?_
                    refine d_take 26 rfl rfl (by kernel_rfl) (by kernel_rfl) (by kernel_rfl) rfl hS (v_pick_f rfl rfl) ?_
                    refine d_done (by kernel_rfl) ?_; clear hS
                    refine n_then ?_
                    refine x_if rfl ?_ ?_
                    · intro c9
                      exact absurd c9 (by simp)
                    · intro c9
                      refine x_skip ?_
                      refine n_block ?_
                      refine n_then ?_
                      refine x_region ?_
                      refine s_val rfl (v_move rfl) ?_
                      refine s_val rfl (v_add rfl rfl (by first | exact w64 (by omega) | rfl)) ?_
                      refine s_val rfl (v_assign rfl) ?_
                      refine x_nil ?_
                      refine n_then ?_
                      refine inv_intro (i + 1) ?_ ?_ ?_ ?_
                      · omega
                      · omega
                      · repeat (first | exact sub_nil | refine sub_cons rfl ?_)
                      · exact inferInstance
              · skip
                refine dx_one rfl rfl (d_allocA Try.zeroValue42) rfl ?_; clear hS
                rintro _ _ ⟨bk, rfl, rfl⟩
                refine ⟨(sc_own (sc_cons (hc _) sc_end)), fun hS => ?_⟩
                refine d_one 7 (by kernel_rfl) rfl rfl (d_call3 Try.call13 rfl (rwFind_spec W0 _ qv qs qm dd fr pg hP hF on root user va hva kind)) rfl ?_; clear hS
                rintro _ B_ ⟨rfl, hB_⟩
                obtain rfl := hB_.symm
                refine ⟨(sc_own (sc_cons (hc _) sc_end)), fun hS => ?_⟩
                refine d_take 8 rfl rfl (by kernel_rfl) (by kernel_rfl) (by kernel_rfl) rfl hS (v_move rfl) ?_
                refine d_take 9 rfl rfl (by kernel_rfl) (by kernel_rfl) (by kernel_rfl) rfl hS (v_extract rfl rfl) ?_
                refine d_take 10 rfl rfl (by kernel_rfl) (by kernel_rfl) (by kernel_rfl) rfl hS (v_extract rfl rfl) ?_
                refine d_one 12 (by kernel_rfl) rfl rfl (d_storeAll Try.sizeOf42 rfl rfl rfl rfl rfl) rfl ?_; clear hS
                rintro _ _ rfl
                refine ⟨(sc_own (sc_cons (hc _) sc_end)), fun hS => ?_⟩
                refine d_take 13 rfl rfl (by kernel_rfl) (by kernel_rfl) (by kernel_rfl) rfl hS (v_assign rfl) ?_
                refine d_done (by kernel_rfl) ?_; clear hS
                refine n_then ?_
                refine x_seq ?_
                refine x_draw [(b1, 0, _), (bh, 0, _), (bk, 0, _), (g, o + i * 1, u4V va)] 27 mixed rfl (sc_own (sc_own (sc_own (sc_cons (hc _) sc_end)))) (fun hS => ?_)
                refine d_take 0 rfl rfl (by kernel_rfl) (by kernel_rfl) (by kernel_rfl) rfl hS (v_move rfl) ?_
                refine d_take 1 rfl rfl (by kernel_rfl) (by kernel_rfl) (by kernel_rfl) rfl hS (v_fieldAddr rfl Try.underlying38 rfl Try.sizeOf3 rfl (by first | exact Nat.zero_add _ | rfl)) ?_
                refine d_take 2 rfl rfl (by kernel_rfl) (by kernel_rfl) (by kernel_rfl) rfl hS (v_load Try.isAgg3 rfl (by first | exact cell_sc0 (k := 0) rfl rfl | exact cell_sc0 (k := 1) rfl rfl | exact cell_sc0 (k := 2) rfl rfl | exact cell_sc0 (k := 3) rfl rfl)) ?_
                refine d_take 3 rfl rfl (by kernel_rfl) (by kernel_rfl) (by kernel_rfl) rfl hS (v_move rfl) ?_
                refine d_take 4 rfl rfl (by kernel_rfl) (by kernel_rfl) (by kernel_rfl) rfl hS (v_move rfl) ?_
                refine d_take 5 rfl rfl (by kernel_rfl) (by kernel_rfl) (by kernel_rfl) rfl hS (v_idx Try.underlying39 Try.sizeOf28 rfl rfl rfl hi1 (by first | exact Nat.zero_add _ | rfl)) ?_
                refine d_take 6 rfl rfl (by kernel_rfl) (by kernel_rfl) (by kernel_rfl) rfl hS (v_load Try.isAgg28 rfl (cell_sc1 (k := 3) rfl)) ?_
                refine d_take 8 rfl rfl (by kernel_rfl) (by kernel_rfl) (by kernel_rfl) rfl hS (v_move rfl) ?_
                refine d_take 9 rfl rfl (by kernel_rfl) (by kernel_rfl) (by kernel_rfl) rfl hS (v_fieldAddr rfl Try.underlying38 rfl Try.sizeOf3 rfl (by first | exact Nat.zero_add _ | rfl)) ?_
                refine d_take 10 rfl rfl (by kernel_rfl) (by kernel_rfl) (by kernel_rfl) rfl hS (v_load Try.isAgg3 rfl (by first | exact cell_sc0 (k := 0) rfl rfl | exact cell_sc0 (k := 1) rfl rfl | exact cell_sc0 (k := 2) rfl rfl | exact cell_sc0 (k := 3) rfl rfl)) ?_
                refine d_take 11 rfl rfl (by kernel_rfl) (by kernel_rfl) (by kernel_rfl) rfl hS (v_move rfl) ?_
                refine d_take 12 rfl rfl (by kernel_rfl) (by kernel_rfl) (by kernel_rfl) rfl hS (v_move rfl) ?_
                refine d_take 13 rfl rfl (by kernel_rfl) (by kernel_rfl) (by kernel_rfl) rfl hS (v_idx Try.underlying39 Try.sizeOf28 rfl rfl rfl hi1 (by first | exact Nat.zero_add _ | rfl)) ?_
                refine d_take 14 rfl rfl (by kernel_rfl) (by kernel_rfl) (by kernel_rfl) rfl hS (v_load Try.isAgg28 rfl (cell_sc1 (k := 3) rfl)) ?_
                refine d_one 7 (by kernel_rfl) rfl rfl (d_call3 Try.call14 rfl (wkWalk_spec W0 _ pv ps pm dd fr pg hP hF root va hva)) rfl ?_; clear hS
                rintro _ B_ ⟨rfl, hB_⟩
                obtain rfl := hB_.symm
                refine ⟨(sc_own (sc_own (sc_own (sc_cons (hc _) sc_end)))), fun hS => ?_⟩
                refine d_one 15 (by kernel_rfl) rfl rfl (d_call3 Try.call15 rfl (rwWalk_spec W0 _ qv qs qm dd fr pg hP hF root va hva)) rfl ?_; clear hS
                rintro _ B_ ⟨rfl, hB_⟩
                obtain rfl := hB_.symm
                refine ⟨(sc_own (sc_own (sc_own (sc_cons (hc _) sc_end)))), fun hS => ?_⟩
                refine d_take 16 rfl rfl (by kernel_rfl) (by kernel_rfl) (by kernel_rfl) rfl hS (v_neq_agg Try.eqGuardType49 rfl rfl (q_struct Try.underlying49 Try.stoodInHeld49 (qf_gen rfl (part_agg Try.isAgg47 Try.sizeOf47 TakeL.eq) (part_agg Try.isAgg47 Try.sizeOf47 TakeL.eq) (q_struct Try.underlying47 Try.stoodInHeld47 (qf_scal rfl Try.isAgg4 rfl rfl (q_bool Try.underlying4) (qf_scal rfl Try.isAgg3 rfl rfl (q_int Try.underlying3) (qf_scal rfl Try.isAgg3 rfl rfl (q_int Try.underlying3) qf_nil)))) (qf_scal rfl Try.isAgg3 rfl rfl (q_int Try.underlying3) (qf_scal rfl Try.isAgg3 rfl rfl (q_int Try.underlying3) (qf_scal rfl Try.isAgg3 rfl rfl (q_int Try.underlying3) qf_nil)))))) ?_
                refine d_take 17 rfl rfl (by kernel_rfl) (by kernel_rfl) (by kernel_rfl) rfl hS (v_move rfl) ?_
                refine x_split (t := 79) rfl ?_ ?_
                · intro g9_18
                  exact absurd g9_18 (by simp)
                · intro g9_18
                  refine d_take 18 rfl rfl (by kernel_rfl) (by kernel_rfl) (by kernel_rfl) rfl hS (v_loadAgg Try.isAgg42 Try.sizeOf42 rfl (by first | exact cells_sc (k := 0) rfl | exact cells_sc (k := 1) rfl | exact cells_sc (k := 2) rfl | exact cells_sc (k := 3) rfl) rfl) ?_
                  refine d_take 19 rfl rfl (by kernel_rfl) (by kernel_rfl) (by kernel_rfl) rfl hS (v_loadAgg Try.isAgg42 Try.sizeOf42 rfl (by first | exact cells_sc (k := 0) rfl | exact cells_sc (k := 1) rfl | exact cells_sc (k := 2) rfl | exact cells_sc (k := 3) rfl) rfl) ?_
                  refine d_take 20 rfl rfl (by kernel_rfl) (by kernel_rfl) (by kernel_rfl) rfl hS (v_neq_agg Try.eqGuardType42 rfl rfl (q_struct Try.underlying42 Try.stoodInHeld42 (qf_scal rfl Try.isAgg3 rfl rfl (q_int Try.underlying3) (qf_scal rfl Try.isAgg3 rfl rfl (q_int Try.underlying3) (qf_scal rfl Try.isAgg3 rfl rfl (q_int Try.underlying3) (qf_scal rfl Try.isAgg4 rfl rfl (q_bool Try.underlying4) qf_nil)))))) ?_
                  refine d_take 21 rfl rfl (by kernel_rfl) (by kernel_rfl) (by kernel_rfl) rfl hS (v_pick_f rfl rfl) ?_
                  refine d_take 22 rfl rfl (by kernel_rfl) (by kernel_rfl) (by kernel_rfl) rfl hS (v_move rfl) ?_
                  refine x_split (t := 84) rfl ?_ ?_
                  · intro g9_23
                    exact absurd g9_23 (by simp)
                  · intro g9_23
                    refine d_take 23 rfl rfl (by kernel_rfl) (by kernel_rfl) (by kernel_rfl) rfl hS (v_move rfl) ?_
                    refine d_take 24 rfl rfl (by kernel_rfl) (by kernel_rfl) (by kernel_rfl) rfl hS (v_move rfl) ?_
                    refine d_take 25 rfl rfl (by kernel_rfl) (by kernel_rfl) (by kernel_rfl) rfl hS (v_neq rfl rfl) ?_
                    refine d_take 26 rfl rfl (by kernel_rfl) (by kernel_rfl) (by kernel_rfl) rfl hS (v_pick_f rfl rfl) ?_
                    refine d_done (by kernel_rfl) ?_; clear hS
                    refine n_then ?_
                    refine x_if rfl ?_ ?_
                    · intro c9
                      exact absurd c9 (by simp)
                    · intro c9
                      refine x_skip ?_
                      refine n_block ?_
                      refine n_then ?_
                      refine x_region ?_
                      refine s_val rfl (v_move rfl) ?_
                      refine s_val rfl (v_add rfl rfl (by first | exact w64 (by omega) | rfl)) ?_
                      refine s_val rfl (v_assign rfl) ?_
                      refine x_nil ?_
                      refine n_then ?_
                      refine inv_intro (i + 1) ?_ ?_ ?_ ?_
                      · omega
                      · omega
                      · repeat (first | exact sub_nil | refine sub_cons rfl ?_)
                      · exact inferInstance
            · skip
              refine dx_one rfl rfl (d_allocA Try.zeroValue42) rfl ?_; clear hS
              rintro _ _ ⟨bh, rfl, rfl⟩
              refine ⟨(sc_own (sc_cons (hc _) sc_end)), fun hS => ?_⟩
              refine d_one 7 (by kernel_rfl) rfl rfl (d_call3 Try.call12 rfl (wkFind_spec W0 _ pv ps pm dd fr pg hP hF on root user va hva kind)) rfl ?_; clear hS
              rintro _ B_ ⟨rfl, hB_⟩
              obtain rfl := hB_.symm
              refine ⟨(sc_own (sc_cons (hc _) sc_end)), fun hS => ?_⟩
              refine d_take 8 rfl rfl (by kernel_rfl) (by kernel_rfl) (by kernel_rfl) rfl hS (v_move rfl) ?_
              refine d_take 9 rfl rfl (by kernel_rfl) (by kernel_rfl) (by kernel_rfl) rfl hS (v_extract rfl rfl) ?_
              refine d_take 10 rfl rfl (by kernel_rfl) (by kernel_rfl) (by kernel_rfl) rfl hS (v_extract rfl rfl) ?_
              refine d_one 12 (by kernel_rfl) rfl rfl (d_storeAll Try.sizeOf42 rfl rfl rfl rfl rfl) rfl ?_; clear hS
              rintro _ _ rfl
              refine ⟨(sc_own (sc_cons (hc _) sc_end)), fun hS => ?_⟩
              refine d_take 13 rfl rfl (by kernel_rfl) (by kernel_rfl) (by kernel_rfl) rfl hS (v_assign rfl) ?_
              refine d_done (by kernel_rfl) ?_; clear hS
              refine n_then ?_
              refine x_seq ?_
              refine x_draw [(b1, 0, _), (g, o + i * 1, u4V va)] 14 mixed rfl (sc_own (sc_cons (hc _) sc_end)) (fun hS => ?_)
              refine d_take 0 rfl rfl (by kernel_rfl) (by kernel_rfl) (by kernel_rfl) rfl hS (v_move rfl) ?_
              refine d_take 1 rfl rfl (by kernel_rfl) (by kernel_rfl) (by kernel_rfl) rfl hS (v_loadAgg Try.isAgg38 Try.sizeOf38 rfl (by first | exact cells_sc (k := 0) rfl | exact cells_sc (k := 1) rfl) rfl) ?_
              refine d_take 2 rfl rfl (by kernel_rfl) (by kernel_rfl) (by kernel_rfl) rfl hS (v_move rfl) ?_
              refine d_take 3 rfl rfl (by kernel_rfl) (by kernel_rfl) (by kernel_rfl) rfl hS (v_move rfl) ?_
              refine d_take 4 rfl rfl (by kernel_rfl) (by kernel_rfl) (by kernel_rfl) rfl hS (v_idx Try.underlying39 Try.sizeOf28 rfl rfl rfl hi1 (by first | exact Nat.zero_add _ | rfl)) ?_
              refine d_take 5 rfl rfl (by kernel_rfl) (by kernel_rfl) (by kernel_rfl) rfl hS (v_load Try.isAgg28 rfl (cell_sc1 (k := 1) rfl)) ?_
              refine d_take 6 rfl rfl (by kernel_rfl) (by kernel_rfl) (by kernel_rfl) rfl hS (v_move rfl) ?_
              refine d_all (is := [7, 11]) (by kernel_rfl) rfl ⟨?_, ?_, trivial⟩
              · skip
                refine dx_one rfl rfl (d_call3 Try.call13 rfl (rwFind_spec W0 _ qv qs qm dd fr pg hP hF on root user va hva kind)) rfl ?_; clear hS
                rintro _ B_ ⟨rfl, hB_⟩
                obtain rfl := hB_.symm
                refine ⟨(sc_own (sc_cons (hc _) sc_end)), fun hS => ?_⟩
                refine d_take 8 rfl rfl (by kernel_rfl) (by kernel_rfl) (by kernel_rfl) rfl hS (v_move rfl) ?_
                refine d_take 9 rfl rfl (by kernel_rfl) (by kernel_rfl) (by kernel_rfl) rfl hS (v_extract rfl rfl) ?_
                refine d_take 10 rfl rfl (by kernel_rfl) (by kernel_rfl) (by kernel_rfl) rfl hS (v_extract rfl rfl) ?_
                refine d_one 11 (by kernel_rfl) rfl rfl (d_allocA Try.zeroValue42) rfl ?_; clear hS
                rintro _ _ ⟨bk, rfl, rfl⟩
                refine ⟨(sc_own (sc_cons (hc _) sc_end)), fun hS => ?_⟩
                refine d_one 12 (by kernel_rfl) rfl rfl (d_storeAll Try.sizeOf42 rfl rfl rfl rfl rfl) rfl ?_; clear hS
                rintro _ _ rfl
                refine ⟨(sc_own (sc_cons (hc _) sc_end)), fun hS => ?_⟩
                refine d_take 13 rfl rfl (by kernel_rfl) (by kernel_rfl) (by kernel_rfl) rfl hS (v_assign rfl) ?_
                refine d_done (by kernel_rfl) ?_; clear hS
                refine n_then ?_
                refine x_seq ?_
                refine x_draw [(b1, 0, _), (bh, 0, _), (bk, 0, _), (g, o + i * 1, u4V va)] 27 mixed rfl (sc_own (sc_own (sc_own (sc_cons (hc _) sc_end)))) (fun hS => ?_)
                refine d_take 0 rfl rfl (by kernel_rfl) (by kernel_rfl) (by kernel_rfl) rfl hS (v_move rfl) ?_
                refine d_take 1 rfl rfl (by kernel_rfl) (by kernel_rfl) (by kernel_rfl) rfl hS (v_fieldAddr rfl Try.underlying38 rfl Try.sizeOf3 rfl (by first | exact Nat.zero_add _ | rfl)) ?_
                refine d_take 2 rfl rfl (by kernel_rfl) (by kernel_rfl) (by kernel_rfl) rfl hS (v_load Try.isAgg3 rfl (by first | exact cell_sc0 (k := 0) rfl rfl | exact cell_sc0 (k := 1) rfl rfl | exact cell_sc0 (k := 2) rfl rfl | exact cell_sc0 (k := 3) rfl rfl)) ?_
                refine d_take 3 rfl rfl (by kernel_rfl) (by kernel_rfl) (by kernel_rfl) rfl hS (v_move rfl) ?_
                refine d_take 4 rfl rfl (by kernel_rfl) (by kernel_rfl) (by kernel_rfl) rfl hS (v_move rfl) ?_
                refine d_take 5 rfl rfl (by kernel_rfl) (by kernel_rfl) (by kernel_rfl) rfl hS (v_idx Try.underlying39 Try.sizeOf28 rfl rfl rfl hi1 (by first | exact Nat.zero_add _ | rfl)) ?_
                refine d_take 6 rfl rfl (by kernel_rfl) (by kernel_rfl) (by kernel_rfl) rfl hS (v_load Try.isAgg28 rfl (cell_sc1 (k := 3) rfl)) ?_
                refine d_take 8 rfl rfl (by kernel_rfl) (by kernel_rfl) (by kernel_rfl) rfl hS (v_move rfl) ?_
                refine d_take 9 rfl rfl (by kernel_rfl) (by kernel_rfl) (by kernel_rfl) rfl hS (v_fieldAddr rfl Try.underlying38 rfl Try.sizeOf3 rfl (by first | exact Nat.zero_add _ | rfl)) ?_
                refine d_take 10 rfl rfl (by kernel_rfl) (by kernel_rfl) (by kernel_rfl) rfl hS (v_load Try.isAgg3 rfl (by first | exact cell_sc0 (k := 0) rfl rfl | exact cell_sc0 (k := 1) rfl rfl | exact cell_sc0 (k := 2) rfl rfl | exact cell_sc0 (k := 3) rfl rfl)) ?_
                refine d_take 11 rfl rfl (by kernel_rfl) (by kernel_rfl) (by kernel_rfl) rfl hS (v_move rfl) ?_
                refine d_take 12 rfl rfl (by kernel_rfl) (by kernel_rfl) (by kernel_rfl) rfl hS (v_move rfl) ?_
                refine d_take 13 rfl rfl (by kernel_rfl) (by kernel_rfl) (by kernel_rfl) rfl hS (v_idx Try.underlying39 Try.sizeOf28 rfl rfl rfl hi1 (by first | exact Nat.zero_add _ | rfl)) ?_
                refine d_take 14 rfl rfl (by kernel_rfl) (by kernel_rfl) (by kernel_rfl) rfl hS (v_load Try.isAgg28 rfl (cell_sc1 (k := 3) rfl)) ?_
                refine d_one 7 (by kernel_rfl) rfl rfl (d_call3 Try.call14 rfl (wkWalk_spec W0 _ pv ps pm dd fr pg hP hF root va hva)) rfl ?_; clear hS
                rintro _ B_ ⟨rfl, hB_⟩
                obtain rfl := hB_.symm
                refine ⟨(sc_own (sc_own (sc_own (sc_cons (hc _) sc_end)))), fun hS => ?_⟩
                refine d_one 15 (by kernel_rfl) rfl rfl (d_call3 Try.call15 rfl (rwWalk_spec W0 _ qv qs qm dd fr pg hP hF root va hva)) rfl ?_; clear hS
                rintro _ B_ ⟨rfl, hB_⟩
                obtain rfl := hB_.symm
                refine ⟨(sc_own (sc_own (sc_own (sc_cons (hc _) sc_end)))), fun hS => ?_⟩
                refine d_take 16 rfl rfl (by kernel_rfl) (by kernel_rfl) (by kernel_rfl) rfl hS (v_neq_agg Try.eqGuardType49 rfl rfl (q_struct Try.underlying49 Try.stoodInHeld49 (qf_gen rfl (part_agg Try.isAgg47 Try.sizeOf47 TakeL.eq) (part_agg Try.isAgg47 Try.sizeOf47 TakeL.eq) (q_struct Try.underlying47 Try.stoodInHeld47 (qf_scal rfl Try.isAgg4 rfl rfl (q_bool Try.underlying4) (qf_scal rfl Try.isAgg3 rfl rfl (q_int Try.underlying3) (qf_scal rfl Try.isAgg3 rfl rfl (q_int Try.underlying3) qf_nil)))) (qf_scal rfl Try.isAgg3 rfl rfl (q_int Try.underlying3) (qf_scal rfl Try.isAgg3 rfl rfl (q_int Try.underlying3) (qf_scal rfl Try.isAgg3 rfl rfl (q_int Try.underlying3) qf_nil)))))) ?_
                refine d_take 17 rfl rfl (by kernel_rfl) (by kernel_rfl) (by kernel_rfl) rfl hS (v_move rfl) ?_
                refine x_split (t := 79) rfl ?_ ?_
                · intro g9_18
                  exact absurd g9_18 (by simp)
                · intro g9_18
                  refine d_take 18 rfl rfl (by kernel_rfl) (by kernel_rfl) (by kernel_rfl) rfl hS (v_loadAgg Try.isAgg42 Try.sizeOf42 rfl (by first | exact cells_sc (k := 0) rfl | exact cells_sc (k := 1) rfl | exact cells_sc (k := 2) rfl | exact cells_sc (k := 3) rfl) rfl) ?_
                  refine d_take 19 rfl rfl (by kernel_rfl) (by kernel_rfl) (by kernel_rfl) rfl hS (v_loadAgg Try.isAgg42 Try.sizeOf42 rfl (by first | exact cells_sc (k := 0) rfl | exact cells_sc (k := 1) rfl | exact cells_sc (k := 2) rfl | exact cells_sc (k := 3) rfl) rfl) ?_
                  refine d_take 20 rfl rfl (by kernel_rfl) (by kernel_rfl) (by kernel_rfl) rfl hS (v_neq_agg Try.eqGuardType42 rfl rfl (q_struct Try.underlying42 Try.stoodInHeld42 (qf_scal rfl Try.isAgg3 rfl rfl (q_int Try.underlying3) (qf_scal rfl Try.isAgg3 rfl rfl (q_int Try.underlying3) (qf_scal rfl Try.isAgg3 rfl rfl (q_int Try.underlying3) (qf_scal rfl Try.isAgg4 rfl rfl (q_bool Try.underlying4) qf_nil)))))) ?_
                  refine d_take 21 rfl rfl (by kernel_rfl) (by kernel_rfl) (by kernel_rfl) rfl hS (v_pick_f rfl rfl) ?_
                  refine d_take 22 rfl rfl (by kernel_rfl) (by kernel_rfl) (by kernel_rfl) rfl hS (v_move rfl) ?_
                  refine x_split (t := 84) rfl ?_ ?_
                  · intro g9_23
                    exact absurd g9_23 (by simp)
                  · intro g9_23
                    refine d_take 23 rfl rfl (by kernel_rfl) (by kernel_rfl) (by kernel_rfl) rfl hS (v_move rfl) ?_
                    refine d_take 24 rfl rfl (by kernel_rfl) (by kernel_rfl) (by kernel_rfl) rfl hS (v_move rfl) ?_
                    refine d_take 25 rfl rfl (by kernel_rfl) (by kernel_rfl) (by kernel_rfl) rfl hS (v_neq rfl rfl) ?_
                    refine d_take 26 rfl rfl (by kernel_rfl) (by kernel_rfl) (by kernel_rfl) rfl hS (v_pick_f rfl rfl) ?_
                    refine d_done (by kernel_rfl) ?_; clear hS
                    refine n_then ?_
                    refine x_if rfl ?_ ?_
                    · intro c9
                      exact absurd c9 (by simp)
                    · intro c9
                      refine x_skip ?_
                      refine n_block ?_
                      refine n_then ?_
                      refine x_region ?_
                      refine s_val rfl (v_move rfl) ?_
                      refine s_val rfl (v_add rfl rfl (by first | exact w64 (by omega) | rfl)) ?_
                      refine s_val rfl (v_assign rfl) ?_
                      refine x_nil ?_
                      refine n_then ?_
                      refine inv_intro (i + 1) ?_ ?_ ?_ ?_
                      · omega
                      · omega
                      · repeat (first | exact sub_nil | refine sub_cons rfl ?_)
                      · exact inferInstance
              · skip
                refine dx_one rfl rfl (d_allocA Try.zeroValue42) rfl ?_; clear hS
                rintro _ _ ⟨bk, rfl, rfl⟩
                refine ⟨(sc_own (sc_cons (hc _) sc_end)), fun hS => ?_⟩
                refine d_one 7 (by kernel_rfl) rfl rfl (d_call3 Try.call13 rfl (rwFind_spec W0 _ qv qs qm dd fr pg hP hF on root user va hva kind)) rfl ?_; clear hS
                rintro _ B_ ⟨rfl, hB_⟩
                obtain rfl := hB_.symm
                refine ⟨(sc_own (sc_cons (hc _) sc_end)), fun hS => ?_⟩
                refine d_take 8 rfl rfl (by kernel_rfl) (by kernel_rfl) (by kernel_rfl) rfl hS (v_move rfl) ?_
                refine d_take 9 rfl rfl (by kernel_rfl) (by kernel_rfl) (by kernel_rfl) rfl hS (v_extract rfl rfl) ?_
                refine d_take 10 rfl rfl (by kernel_rfl) (by kernel_rfl) (by kernel_rfl) rfl hS (v_extract rfl rfl) ?_
                refine d_one 12 (by kernel_rfl) rfl rfl (d_storeAll Try.sizeOf42 rfl rfl rfl rfl rfl) rfl ?_; clear hS
                rintro _ _ rfl
                refine ⟨(sc_own (sc_cons (hc _) sc_end)), fun hS => ?_⟩
                refine d_take 13 rfl rfl (by kernel_rfl) (by kernel_rfl) (by kernel_rfl) rfl hS (v_assign rfl) ?_
                refine d_done (by kernel_rfl) ?_; clear hS
                refine n_then ?_
                refine x_seq ?_
                refine x_draw [(b1, 0, _), (bh, 0, _), (bk, 0, _), (g, o + i * 1, u4V va)] 27 mixed rfl (sc_own (sc_own (sc_own (sc_cons (hc _) sc_end)))) (fun hS => ?_)
                refine d_take 0 rfl rfl (by kernel_rfl) (by kernel_rfl) (by kernel_rfl) rfl hS (v_move rfl) ?_
                refine d_take 1 rfl rfl (by kernel_rfl) (by kernel_rfl) (by kernel_rfl) rfl hS (v_fieldAddr rfl Try.underlying38 rfl Try.sizeOf3 rfl (by first | exact Nat.zero_add _ | rfl)) ?_
                refine d_take 2 rfl rfl (by kernel_rfl) (by kernel_rfl) (by kernel_rfl) rfl hS (v_load Try.isAgg3 rfl (by first | exact cell_sc0 (k := 0) rfl rfl | exact cell_sc0 (k := 1) rfl rfl | exact cell_sc0 (k := 2) rfl rfl | exact cell_sc0 (k := 3) rfl rfl)) ?_
                refine d_take 3 rfl rfl (by kernel_rfl) (by kernel_rfl) (by kernel_rfl) rfl hS (v_move rfl) ?_
                refine d_take 4 rfl rfl (by kernel_rfl) (by kernel_rfl) (by kernel_rfl) rfl hS (v_move rfl) ?_
                refine d_take 5 rfl rfl (by kernel_rfl) (by kernel_rfl) (by kernel_rfl) rfl hS (v_idx Try.underlying39 Try.sizeOf28 rfl rfl rfl hi1 (by first | exact Nat.zero_add _ | rfl)) ?_
                refine d_take 6 rfl rfl (by kernel_rfl) (by kernel_rfl) (by kernel_rfl) rfl hS (v_load Try.isAgg28 rfl (cell_sc1 (k := 3) rfl)) ?_
                refine d_take 8 rfl rfl (by kernel_rfl) (by kernel_rfl) (by kernel_rfl) rfl hS (v_move rfl) ?_
                refine d_take 9 rfl rfl (by kernel_rfl) (by kernel_rfl) (by kernel_rfl) rfl hS (v_fieldAddr rfl Try.underlying38 rfl Try.sizeOf3 rfl (by first | exact Nat.zero_add _ | rfl)) ?_
                refine d_take 10 rfl rfl (by kernel_rfl) (by kernel_rfl) (by kernel_rfl) rfl hS (v_load Try.isAgg3 rfl (by first | exact cell_sc0 (k := 0) rfl rfl | exact cell_sc0 (k := 1) rfl rfl | exact cell_sc0 (k := 2) rfl rfl | exact cell_sc0 (k := 3) rfl rfl)) ?_
                refine d_take 11 rfl rfl (by kernel_rfl) (by kernel_rfl) (by kernel_rfl) rfl hS (v_move rfl) ?_
                refine d_take 12 rfl rfl (by kernel_rfl) (by kernel_rfl) (by kernel_rfl) rfl hS (v_move rfl) ?_
                refine d_take 13 rfl rfl (by kernel_rfl) (by kernel_rfl) (by kernel_rfl) rfl hS (v_idx Try.underlying39 Try.sizeOf28 rfl rfl rfl hi1 (by first | exact Nat.zero_add _ | rfl)) ?_
                refine d_take 14 rfl rfl (by kernel_rfl) (by kernel_rfl) (by kernel_rfl) rfl hS (v_load Try.isAgg28 rfl (cell_sc1 (k := 3) rfl)) ?_
                refine d_one 7 (by kernel_rfl) rfl rfl (d_call3 Try.call14 rfl (wkWalk_spec W0 _ pv ps pm dd fr pg hP hF root va hva)) rfl ?_; clear hS
                rintro _ B_ ⟨rfl, hB_⟩
                obtain rfl := hB_.symm
                refine ⟨(sc_own (sc_own (sc_own (sc_cons (hc _) sc_end)))), fun hS => ?_⟩
                refine d_one 15 (by kernel_rfl) rfl rfl (d_call3 Try.call15 rfl (rwWalk_spec W0 _ qv qs qm dd fr pg hP hF root va hva)) rfl ?_; clear hS
                rintro _ B_ ⟨rfl, hB_⟩
                obtain rfl := hB_.symm
                refine ⟨(sc_own (sc_own (sc_own (sc_cons (hc _) sc_end)))), fun hS => ?_⟩
                refine d_take 16 rfl rfl (by kernel_rfl) (by kernel_rfl) (by kernel_rfl) rfl hS (v_neq_agg Try.eqGuardType49 rfl rfl (q_struct Try.underlying49 Try.stoodInHeld49 (qf_gen rfl (part_agg Try.isAgg47 Try.sizeOf47 TakeL.eq) (part_agg Try.isAgg47 Try.sizeOf47 TakeL.eq) (q_struct Try.underlying47 Try.stoodInHeld47 (qf_scal rfl Try.isAgg4 rfl rfl (q_bool Try.underlying4) (qf_scal rfl Try.isAgg3 rfl rfl (q_int Try.underlying3) (qf_scal rfl Try.isAgg3 rfl rfl (q_int Try.underlying3) qf_nil)))) (qf_scal rfl Try.isAgg3 rfl rfl (q_int Try.underlying3) (qf_scal rfl Try.isAgg3 rfl rfl (q_int Try.underlying3) (qf_scal rfl Try.isAgg3 rfl rfl (q_int Try.underlying3) qf_nil)))))) ?_
                refine d_take 17 rfl rfl (by kernel_rfl) (by kernel_rfl) (by kernel_rfl) rfl hS (v_move rfl) ?_
                refine x_split (t := 79) rfl ?_ ?_
                · intro g9_18
                  exact absurd g9_18 (by simp)
                · intro g9_18
                  refine d_take 18 rfl rfl (by kernel_rfl) (by kernel_rfl) (by kernel_rfl) rfl hS (v_loadAgg Try.isAgg42 Try.sizeOf42 rfl (by first | exact cells_sc (k := 0) rfl | exact cells_sc (k := 1) rfl | exact cells_sc (k := 2) rfl | exact cells_sc (k := 3) rfl) rfl) ?_
                  refine d_take 19 rfl rfl (by kernel_rfl) (by kernel_rfl) (by kernel_rfl) rfl hS (v_loadAgg Try.isAgg42 Try.sizeOf42 rfl (by first | exact cells_sc (k := 0) rfl | exact cells_sc (k := 1) rfl | exact cells_sc (k := 2) rfl | exact cells_sc (k := 3) rfl) rfl) ?_
                  refine d_take 20 rfl rfl (by kernel_rfl) (by kernel_rfl) (by kernel_rfl) rfl hS (v_neq_agg Try.eqGuardType42 rfl rfl (q_struct Try.underlying42 Try.stoodInHeld42 (qf_scal rfl Try.isAgg3 rfl rfl (q_int Try.underlying3) (qf_scal rfl Try.isAgg3 rfl rfl (q_int Try.underlying3) (qf_scal rfl Try.isAgg3 rfl rfl (q_int Try.underlying3) (qf_scal rfl Try.isAgg4 rfl rfl (q_bool Try.underlying4) qf_nil)))))) ?_
                  refine d_take 21 rfl rfl (by kernel_rfl) (by kernel_rfl) (by kernel_rfl) rfl hS (v_pick_f rfl rfl) ?_
                  refine d_take 22 rfl rfl (by kernel_rfl) (by kernel_rfl) (by kernel_rfl) rfl hS (v_move rfl) ?_
                  refine x_split (t := 84) rfl ?_ ?_
                  · intro g9_23
                    exact absurd g9_23 (by simp)
                  · intro g9_23
                    refine d_take 23 rfl rfl (by kernel_rfl) (by kernel_rfl) (by kernel_rfl) rfl hS (v_move rfl) ?_
                    refine d_take 24 rfl rfl (by kernel_rfl) (by kernel_rfl) (by kernel_rfl) rfl hS (v_move rfl) ?_
                    refine d_take 25 rfl rfl (by kernel_rfl) (by kernel_rfl) (by kernel_rfl) rfl hS (v_neq rfl rfl) ?_
                    refine d_take 26 rfl rfl (by kernel_rfl) (by kernel_rfl) (by kernel_rfl) rfl hS (v_pick_f rfl rfl) ?_
                    refine d_done (by kernel_rfl) ?_; clear hS
                    refine n_then ?_
                    refine x_if rfl ?_ ?_
                    · intro c9
                      exact absurd c9 (by simp)
                    · intro c9
                      refine x_skip ?_
                      refine n_block ?_
                      refine n_then ?_
                      refine x_region ?_
                      refine s_val rfl (v_move rfl) ?_
                      refine s_val rfl (v_add rfl rfl (by first | exact w64 (by omega) | rfl)) ?_
                      refine s_val rfl (v_assign rfl) ?_
                      refine x_nil ?_
                      refine n_then ?_
                      refine inv_intro (i + 1) ?_ ?_ ?_ ?_
                      · omega
                      · omega
                      · repeat (first | exact sub_nil | refine sub_cons rfl ?_)
                      · exact inferInstance
          · intro c5
            refine x_exit ?_
            refine e_then ?_
            refine e_then ?_
            refine e_block ?_
            refine n_then ?_
            refine x_seq ?_
            refine x_region ?_
            refine s_do rfl (d_call Try.call16 rfl (awake17_spec W0 _)) ?_
            rintro _ B_ ⟨rfl, hB_⟩
            obtain rfl := hB_.symm
            refine s_val rfl (v_assign rfl) ?_
            refine x_nil ?_
            refine n_then ?_
            refine x_ret ?_
            refine x_done (.inl rfl) (.cons (r_tmp rfl) .nil) ?_
            exact ⟨_, ⟨rfl, rfl⟩, inferInstance⟩
        · intro g5_5
          refine s_no rfl rfl rfl rfl ?_
          refine s_val rfl (v_pick_f rfl rfl) ?_
          refine x_nil ?_
          refine n_then ?_
          refine x_iff rfl ?_
          refine x_exit ?_
          refine e_then ?_
          refine e_then ?_
          refine e_block ?_
          refine n_then ?_
          refine x_seq ?_
          refine x_region ?_
          refine s_do rfl (d_call Try.call16 rfl (awake17_spec W0 _)) ?_
          rintro _ B_ ⟨rfl, hB_⟩
          obtain rfl := hB_.symm
          refine s_val rfl (v_assign rfl) ?_
          refine x_nil ?_
          refine n_then ?_
          refine x_ret ?_
          refine x_done (.inl rfl) (.cons (r_tmp rfl) .nil) ?_
          exact ⟨_, ⟨rfl, rfl⟩, inferInstance⟩
theorem fnw_off {fr : List Frm} {pg : List Pl} {root : Int} {user : Bool} {va : Nat} {kind : Int} : fnwV fr pg false root user va kind = [.int .i64 (fndP fr.length pg va 1 kind), .int .i64 (fndF fr.length pg va 1 kind), .int .i64 (fndO fr.length pg va 1 kind), .bool false] ∧ fnwE fr pg false root user va kind = fndE fr.length pg va 1 kind := ⟨rfl, rfl⟩
theorem WalkFlat_walk (W0 : World) (gone : Nat) (hg : gone < 65536) (root : Int) (user : Bool) (va : Nat) (hva : va < 4294967296) (kind : Int) :
    Spec Try.prog W0 5 [.int .u16 gone, .int .i64 root, .bool user, .int .u32 va, .int .i64 kind] [] (fun v B => v = .bool true ∧ B = []) := by
  have hP := pg17_ok gone 10
  obtain ⟨hF, _, _⟩ := mk17_ok gone []
  refine spec_body Try.func5 Try.ntmps5 rfl rfl ?_
  refine x_seq ?_
  refine x_region ?_
  refine s_val rfl (v_assign rfl) ?_
  refine x_nil ?_
  refine n_then ?_
  refine x_seq ?_
  refine x_region ?_
  refine s_val rfl (v_move rfl) ?_
  refine s_do rfl (d_call Try.call11 rfl (made17_spec W0 _ gone hg _ _ [] sla_nil (fun t ht => by simp at ht) (by decide))) ?_
  rintro _ B_ ⟨pv, ps, pm, qv, qs, qm, rfl, hB_⟩
  obtain rfl := hB_.symm
  generalize (mk17 gone []).1 = fr at hF
  generalize (mk17 gone []).2 = dd
  generalize pg17 gone 10 = pg at hP
  refine s_val rfl (v_move rfl) ?_
  refine s_val rfl (v_extract rfl rfl) ?_
  refine s_val rfl (v_extract rfl rfl) ?_
  refine s_val rfl (v_assign rfl) ?_
  refine s_val rfl (v_assign rfl) ?_
  refine x_nil ?_
  refine n_then ?_
  refine x_seq ?_
  refine x_seq ?_
  refine x_region ?_
  refine s_val rfl (v_move rfl) ?_
  refine s_val rfl (v_eql_ptr_nil Try.underlying23 rfl rfl) ?_
  refine x_nil ?_
  refine n_then ?_
  refine x_if rfl ?_ ?_
  · intro c2
    cases c2
  · intro c2
    refine x_skip ?_
    refine n_then ?_
    refine x_seq ?_
    refine x_region ?_
    refine s_val rfl (v_move rfl) ?_
    refine s_val rfl (v_move rfl) ?_
    refine s_val rfl (v_move rfl) ?_
    refine s_val rfl (v_build Try.underlying38 Try.zeroValue38 (sized_cons Try.sizeOf4 (sized_cons Try.sizeOf3 (sized_cons Try.sizeOf4 sized_nil))) (fil_scal rfl Try.sizeOf3 rfl rfl (Nat.le_of_ble_eq_true rfl) SetL.eq (fil_scal rfl Try.sizeOf4 rfl rfl (Nat.le_of_ble_eq_true rfl) SetL.eq fil_nil))) ?_
    refine s_val rfl (v_move rfl) ?_
    refine s_val rfl (v_move rfl) ?_
    refine s_do rfl (d_call3 Try.call12 rfl (wkFind_spec W0 _ pv ps pm dd fr pg hP hF false root user va hva kind)) ?_
    rintro _ B_ ⟨rfl, hB_⟩
    obtain rfl := hB_.symm
    rw [fnw_off.1, fnw_off.2]
    refine s_val rfl (v_move rfl) ?_
    refine s_val rfl (v_extract rfl rfl) ?_
    refine s_val rfl (v_extract rfl rfl) ?_
    refine s_do rfl (d_allocA Try.zeroValue42) ?_
    rintro _ _ ⟨b1, rfl, rfl⟩
    refine s_do0 (d_storeAll Try.sizeOf42 rfl rfl rfl rfl rfl) ?_
    rintro _ _ rfl
    refine s_val rfl (v_assign rfl) ?_
    refine x_nil ?_
    refine n_then ?_
    refine x_seq ?_
    refine x_region ?_
    refine s_val rfl (v_move rfl) ?_
    refine s_val rfl (v_move rfl) ?_
    refine s_val rfl (v_move rfl) ?_
    refine s_do rfl (d_call3 Try.call17 rfl (viFind_spec W0 _ pv ps pm dd fr pg hP va hva 1 kind)) ?_
    rintro _ B_ ⟨rfl, hB_⟩
    obtain rfl := hB_.symm
    rw [fndV_eq]
    refine s_val rfl (v_move rfl) ?_
    refine s_val rfl (v_extract rfl rfl) ?_
    refine s_val rfl (v_extract rfl rfl) ?_
    refine s_do rfl (d_allocA Try.zeroValue42) ?_
    rintro _ _ ⟨b2, rfl, rfl⟩
    refine s_do0 (d_storeAll Try.sizeOf42 rfl rfl rfl rfl rfl) ?_
    rintro _ _ rfl
    refine s_val rfl (v_assign rfl) ?_
    refine x_nil ?_
    refine n_then ?_
    refine x_seq ?_
    refine x_region ?_
    refine s_val rfl (v_loadAll Try.isAgg42 Try.sizeOf42 rfl rfl) ?_
    refine s_val rfl (v_loadAll Try.isAgg42 Try.sizeOf42 rfl rfl) ?_
    refine s_val rfl (v_eql_agg Try.eqGuardType42 rfl rfl (q_struct Try.underlying42 Try.stoodInHeld42 (qf_scal rfl Try.isAgg3 rfl rfl (q_int Try.underlying3) (qf_scal rfl Try.isAgg3 rfl rfl (q_int Try.underlying3) (qf_scal rfl Try.isAgg3 rfl rfl (q_int Try.underlying3) (qf_scal rfl Try.isAgg4 rfl rfl (q_bool Try.underlying4) qf_nil)))))) ?_
    refine s_val rfl (v_move rfl) ?_
    refine s_and rfl rfl rfl ?_ ?_
    · intro g6_4
      refine s_val rfl (v_move rfl) ?_
      refine s_yes rfl rfl ?_
      refine s_val rfl (v_move rfl) ?_
      refine s_yes rfl rfl ?_
      refine s_val rfl (v_eql rfl rfl) ?_
      refine s_val rfl (v_pick_t rfl rfl) ?_
      refine s_val rfl (v_move rfl) ?_
      refine s_and rfl rfl rfl ?_ ?_
      · intro g6_9
        refine s_val rfl (v_move rfl) ?_
        refine s_yes rfl rfl ?_
        refine s_val rfl (v_neq rfl rfl) ?_
        refine s_yes rfl rfl ?_
        refine s_val rfl (v_move rfl) ?_
        refine s_or rfl rfl rfl ?_ ?_
        · intro g6_12
          refine s_no rfl rfl rfl rfl ?_
          refine s_no rfl rfl rfl rfl ?_
          refine s_no rfl rfl rfl rfl ?_
          refine s_no rfl rfl rfl rfl ?_
          refine s_no rfl rfl rfl rfl ?_
          refine s_no rfl rfl rfl rfl ?_
          refine s_nou rfl rfl rfl ?_
          refine s_nou rfl rfl rfl ?_
          refine s_nou rfl rfl rfl ?_
          refine s_nou rfl rfl rfl ?_
          refine s_nou rfl rfl rfl ?_
          refine s_nou rfl rfl rfl ?_
          refine s_no rfl rfl rfl rfl ?_
          refine s_yes rfl rfl ?_
          refine s_val rfl (v_pick_t rfl rfl) ?_
          refine s_val rfl (v_pick_t rfl rfl) ?_
          refine s_val rfl (v_move rfl) ?_
          refine s_yes rfl rfl ?_
          refine s_do rfl (d_call Try.call16 rfl (awake17_spec W0 _)) ?_
          rintro _ B_ ⟨rfl, hB_⟩
          obtain rfl := hB_.symm
          refine s_val rfl (v_pick_t rfl rfl) ?_
          refine s_val rfl (v_assign rfl) ?_
          refine x_nil ?_
          refine n_then ?_
          refine x_ret ?_
          refine x_done (.inl rfl) (.cons (r_tmp rfl) .nil) ?_
          exact ⟨_, ⟨rfl, rfl⟩, inferInstance⟩
        · intro g6_12
          have hz : fndE fr.length pg va 1 kind = 0 := Decidable.not_not.1 g6_12
          have hp : fndP fr.length pg va 1 kind = ((va / 64 : Nat) : Int) := by rw [fndP, if_pos hz]
          have ho : fndO fr.length pg va 1 kind = ((va % 64 : Nat) : Int) := by rw [fndO, if_pos hz]
          refine s_val rfl (v_fieldAddr rfl Try.underlying42 rfl Try.sizeOf3 rfl (by first | exact Nat.zero_add _ | rfl)) ?_
          refine s_yes rfl rfl ?_
          refine s_val rfl (v_load Try.isAgg3 rfl (cell_own rfl)) ?_
          refine s_yes rfl rfl ?_
          refine s_val rfl (v_move rfl) ?_
          refine s_yes rfl rfl ?_
          refine s_val rfl (v_quo rfl rfl (by decide) ((congrArg (IntKind.wrap .u32) (tdivN va 64)).trans (w32u (by omega)))) ?_
          refine s_yes rfl rfl ?_
          refine s_val rfl (v_conv Try.underlying28 Try.underlying3 rfl (w64 (by omega))) ?_
          refine s_yes rfl rfl ?_
          refine s_val rfl (v_eql rfl rfl) ?_
          refine s_yes rfl rfl ?_
          refine s_val rfl (v_move rfl) ?_
          refine s_and rfl rfl rfl ?_ ?_
          · intro g6_19
            refine s_val rfl (v_fieldAddr rfl Try.underlying42 rfl Try.sizeOf3 rfl (by first | exact Nat.zero_add _ | rfl)) ?_
            refine s_yes rfl rfl ?_
            refine s_val rfl (v_load Try.isAgg3 rfl (cell_own rfl)) ?_
            refine s_yes rfl rfl ?_
            refine s_val rfl (v_move rfl) ?_
            refine s_yes rfl rfl ?_
            refine s_val rfl (v_rem rfl rfl (by decide) (tmodN va 64)) ?_
            refine s_yes rfl rfl ?_
            refine s_val rfl (v_conv Try.underlying28 Try.underlying3 rfl (w64 (by omega))) ?_
            refine s_yes rfl rfl ?_
            refine s_val rfl (v_eql rfl rfl) ?_
            refine s_yes rfl rfl ?_
            refine s_val rfl (v_pick_t rfl rfl) ?_
            refine s_yes rfl rfl ?_
            refine s_val rfl (v_pick_f rfl rfl) ?_
            refine s_val rfl (v_pick_t rfl rfl) ?_
            refine s_val rfl (v_move rfl) ?_
            refine s_and rfl rfl rfl ?_ ?_
            · intro g6_29
              refine s_do rfl (d_call Try.call16 rfl (awake17_spec W0 _)) ?_
              rintro _ B_ ⟨rfl, hB_⟩
              obtain rfl := hB_.symm
              refine s_val rfl (v_pick_t rfl rfl) ?_
              refine s_val rfl (v_assign rfl) ?_
              refine x_nil ?_
              refine n_then ?_
              refine x_ret ?_
              refine x_done (.inl rfl) (.cons (r_tmp rfl) .nil) ?_
              exact ⟨_, ⟨rfl, rfl⟩, inferInstance⟩
            · intro g6_29
              first | exact absurd rfl g6_29 | exact absurd ho g6_29 | exact absurd (decide_eq_true ho) g6_29 | simp_all
          · intro g6_19
            exact absurd hp g6_19
      · intro g6_9
        exact absurd rfl g6_9
    · intro g6_4
      exact absurd (by simp) g6_4
end Go.Proofs.Ytpmacnfjafpdcab
