/-
  Layer 22 (chain): the walk of ChainMoves.
-/
import Derived.Test.YtpmacnfjafpdcabChainMvB
import Derived.Test.YtpmacnfjafpdcabChainLawB
import Derived.Test.YtpmacnfjafpdcabBytesOf
namespace Go.Proofs.Ytpmacnfjafpdcab
open Go.RowKit
set_option linter.unusedSimpArgs false
set_option linter.unusedVariables false
set_option maxRecDepth 20000

theorem ChainMoves_walk (W0 : World) (gone : Nat) (hg : gone < 256) (al ap ab : Option Addr) (cl cp cb : Nat) (l : List Dsc) (ts : List Pt22) (bs : List Nat) (most from_ : Int) (hs : SlB W0 al 4 dsV l) (hl : ∀ d ∈ l, d.ok) (hll : l.length < 9223372036854775808)
    (hts : SlB W0 ap 2 pt22V ts) (htok : ∀ t ∈ ts, Pt22Ok (OwnP W0 []) t) (hl2 : ts.length < 9223372036854775808) (hsb : SlB W0 ab 1 (fun x => [bV x]) bs) (hb : By bs) (hbl : bs.length < 9223372036854775808) (hcb : bs.length ≤ cb)
    (hm : -9223372036854775808 ≤ most ∧ most < 9223372036854775808) (hf : -9223372036854775808 ≤ from_ ∧ from_ < 9223372036854775808) :
    Spec Try.prog W0 6 [.int .u8 gone, .slice al l.length cl, .slice ap ts.length cp, .int .i64 most, .int .i64 from_, .slice ab bs.length cb] [] (fun v B => v = .bool true ∧ B = []) := by
  have hP := pg22_ok gone 8
  obtain ⟨hF, hFl, hd⟩ := mk22_ok gone [] ts
  refine spec_body Try.func6 Try.ntmps6 rfl rfl ?_
  refine x_seq ?_
  refine x_region ?_
  refine s_val rfl (v_assign rfl) ?_
  refine x_nil ?_
  refine n_then ?_
  refine x_seq ?_
  refine x_region ?_
  refine s_val rfl (v_move rfl) ?_
  refine s_val rfl (v_move rfl) ?_
  refine s_do rfl (d_call Try.call7 rfl (made22_spec W0 _ gone hg _ _ _ _ [] ts sla_nil (fun d hd => by simp at hd) (by decide) (sla_base hts) htok hl2)) ?_
  rintro _ B_ ⟨pv, ps, pm, qv, qs, qm, rfl, hB_⟩
  obtain rfl := hB_.symm
  generalize (mk22 gone [] ts).1 = fr at hF hFl
  generalize (mk22 gone [] ts).2 = dd at hd
  generalize pg22 gone 8 = pg at hP
  refine s_val rfl (v_move rfl) ?_
  refine s_val rfl (v_extract rfl rfl) ?_
  refine s_val rfl (v_extract rfl rfl) ?_
  refine s_val rfl (v_assign rfl) ?_
  refine s_val rfl (v_assign rfl) ?_
  refine x_nil ?_
  refine n_then ?_
  refine x_seq ?_
  refine x_seq ?_
  refine x_region ?_
  refine s_val rfl (v_move rfl) ?_
  refine s_val rfl (v_eql_ptr_nil Try.underlying23 rfl rfl) ?_
  refine s_val rfl (v_move rfl) ?_
  refine s_or rfl rfl rfl ?_ ?_
  · intro g2_3
    cases g2_3
  · intro g2_3
    refine s_val rfl (v_move rfl) ?_
    refine s_yes rfl rfl ?_
    refine s_val rfl (v_eql_ptr_nil Try.underlying24 rfl rfl) ?_
    refine s_val rfl (v_pick_f rfl rfl) ?_
    refine s_val rfl (v_move rfl) ?_
    refine s_or rfl rfl rfl ?_ ?_
    · intro g2_7
      cases g2_7
    · intro g2_7
      refine s_val rfl (v_move rfl) ?_
      refine s_yes rfl rfl ?_
      refine s_val rfl (v_len_slice Try.underlying27 rfl) ?_
      refine s_yes rfl rfl ?_
      refine s_val rfl (v_gtr rfl rfl) ?_
      refine s_val rfl (v_pick_f rfl rfl) ?_
      refine s_val rfl (v_move rfl) ?_
      refine s_or rfl rfl rfl ?_ ?_
      · intro g2_12
        refine s_no rfl rfl rfl rfl ?_
        refine s_no rfl rfl rfl rfl ?_
        refine s_val rfl (v_pick_t rfl rfl) ?_
        refine x_nil ?_
        refine n_then ?_
        refine x_ift rfl ?_
        refine x_seq ?_
        refine x_region ?_
        refine s_val rfl (v_move rfl) ?_
        refine s_val rfl (v_neq_ptr_nil Try.underlying23 rfl rfl) ?_
        refine s_val rfl (v_move rfl) ?_
        refine s_and rfl rfl rfl ?_ ?_
        · intro g3_3
          refine s_val rfl (v_move rfl) ?_
          refine s_yes rfl rfl ?_
          refine s_val rfl (v_neq_ptr_nil Try.underlying24 rfl rfl) ?_
          refine s_val rfl (v_pick_t rfl rfl) ?_
          refine s_val rfl (v_move rfl) ?_
          refine s_and rfl rfl rfl ?_ ?_
          · intro g3_7
            refine s_do rfl (d_call Try.call10 rfl (awake22_spec W0 _)) ?_
            rintro _ B_ ⟨rfl, hB_⟩
            obtain rfl := hB_.symm
            refine s_val rfl (v_pick_t rfl rfl) ?_
            refine s_val rfl (v_assign rfl) ?_
            refine x_nil ?_
            refine n_then ?_
            refine x_ret ?_
            refine r_then ?_
            refine x_done (.inl rfl) (.cons (r_tmp rfl) .nil) ?_
            exact ⟨_, ⟨rfl, rfl⟩, inferInstance⟩
          · intro g3_7
            exact absurd (by simp) g3_7
        · intro g3_3
          exact absurd (by simp) g3_3
      · intro g2_12
        refine s_val rfl (v_move rfl) ?_
        refine s_yes rfl rfl ?_
        refine s_val rfl (v_len_slice Try.underlying22 rfl) ?_
        refine s_yes rfl rfl ?_
        refine s_val rfl (v_gtr rfl rfl) ?_
        refine s_val rfl (v_pick_f rfl rfl) ?_
        refine x_nil ?_
        refine n_then ?_
        refine x_if rfl ?_ ?_
        · intro c2
          refine x_seq ?_
          refine x_region ?_
          refine s_val rfl (v_move rfl) ?_
          refine s_val rfl (v_neq_ptr_nil Try.underlying23 rfl rfl) ?_
          refine s_val rfl (v_move rfl) ?_
          refine s_and rfl rfl rfl ?_ ?_
          · intro g3_3
            refine s_val rfl (v_move rfl) ?_
            refine s_yes rfl rfl ?_
            refine s_val rfl (v_neq_ptr_nil Try.underlying24 rfl rfl) ?_
            refine s_val rfl (v_pick_t rfl rfl) ?_
            refine s_val rfl (v_move rfl) ?_
            refine s_and rfl rfl rfl ?_ ?_
            · intro g3_7
              refine s_do rfl (d_call Try.call10 rfl (awake22_spec W0 _)) ?_
              rintro _ B_ ⟨rfl, hB_⟩
              obtain rfl := hB_.symm
              refine s_val rfl (v_pick_t rfl rfl) ?_
              refine s_val rfl (v_assign rfl) ?_
              refine x_nil ?_
              refine n_then ?_
              refine x_ret ?_
              refine r_then ?_
              refine x_done (.inl rfl) (.cons (r_tmp rfl) .nil) ?_
              exact ⟨_, ⟨rfl, rfl⟩, inferInstance⟩
            · intro g3_7
              exact absurd (by simp) g3_7
          · intro g3_3
            exact absurd (by simp) g3_3
        · intro c2
          refine x_skip ?_
          refine n_then ?_
          refine x_seq ?_
          refine x_seq ?_
          refine x_draw [] 24 mixed rfl sc_end (fun hS => ?_)
          refine d_take 0 rfl rfl (by kernel_rfl) (by kernel_rfl) (by kernel_rfl) rfl hS (v_move rfl) ?_
          refine d_take 1 rfl rfl (by kernel_rfl) (by kernel_rfl) (by kernel_rfl) rfl hS (v_move rfl) ?_
          refine d_take 2 rfl rfl (by kernel_rfl) (by kernel_rfl) (by kernel_rfl) rfl hS (v_move rfl) ?_
          refine d_take 5 rfl rfl (by kernel_rfl) (by kernel_rfl) (by kernel_rfl) rfl hS (v_move rfl) ?_
          refine d_take 6 rfl rfl (by kernel_rfl) (by kernel_rfl) (by kernel_rfl) rfl hS (v_move rfl) ?_
          refine d_take 7 rfl rfl (by kernel_rfl) (by kernel_rfl) (by kernel_rfl) rfl hS (v_move rfl) ?_
          refine d_one 3 (by kernel_rfl) rfl rfl (d_call3 Try.call9 rfl (chGather_spec W0 _ pv ps pm dd cl al fr pg hP hF l (sla_base hs) hl (by omega) most hm)) rfl ?_; clear hS
          rintro _ B_ ⟨a1, k1, rfl, hB_⟩
          obtain rfl := hB_.symm
          refine ⟨sc_end, fun hS => ?_⟩
          refine d_all (is := [4, 8]) (by kernel_rfl) rfl ⟨?_, ?_, trivial⟩
          · skip
            refine dx_one rfl rfl (d_val (v_bstr (E' := 5) Try.underlying22 Try.underlying5 Try.underlying9 rfl rfl rfl)) rfl ?_; clear hS
            rintro _ _ ⟨rfl, rfl⟩
            refine ⟨sc_end, fun hS => ?_⟩
            refine d_one 8 (by kernel_rfl) rfl rfl (d_call3 Try.call18 rfl (rcGather_spec W0 _ qv qs qm dd cl al fr pg hP hF l (sla_base hs) hl (by omega) most hm)) rfl ?_; clear hS
            rintro _ B_ ⟨a2, k2, rfl, hB_⟩
            obtain rfl := hB_.symm
            refine ⟨sc_end, fun hS => ?_⟩
            refine d_one 9 (by kernel_rfl) rfl rfl (d_val (v_bstr (E' := 5) Try.underlying22 Try.underlying5 Try.underlying9 rfl rfl rfl)) rfl ?_; clear hS
            rintro _ _ ⟨rfl, rfl⟩
            refine ⟨sc_end, fun hS => ?_⟩
            refine d_take 10 rfl rfl (by kernel_rfl) (by kernel_rfl) (by kernel_rfl) rfl hS (v_neq_str rfl rfl) ?_
            refine d_take 11 rfl rfl (by kernel_rfl) (by kernel_rfl) (by kernel_rfl) rfl hS (v_move rfl) ?_
            refine x_split (t := 60) rfl ?_ ?_
            · intro g4_12
              exact absurd (by simp) g4_12
            · intro g4_12
              refine d_take 12 rfl rfl (by kernel_rfl) (by kernel_rfl) (by kernel_rfl) rfl hS (v_move rfl) ?_
              refine d_take 13 rfl rfl (by kernel_rfl) (by kernel_rfl) (by kernel_rfl) rfl hS (v_move rfl) ?_
              refine d_take 14 rfl rfl (by kernel_rfl) (by kernel_rfl) (by kernel_rfl) rfl hS (v_move rfl) ?_
              refine d_take 15 rfl rfl (by kernel_rfl) (by kernel_rfl) (by kernel_rfl) rfl hS (v_move rfl) ?_
              refine d_take 17 rfl rfl (by kernel_rfl) (by kernel_rfl) (by kernel_rfl) rfl hS (v_move rfl) ?_
              refine d_take 18 rfl rfl (by kernel_rfl) (by kernel_rfl) (by kernel_rfl) rfl hS (v_move rfl) ?_
              refine d_take 19 rfl rfl (by kernel_rfl) (by kernel_rfl) (by kernel_rfl) rfl hS (v_move rfl) ?_
              refine d_take 20 rfl rfl (by kernel_rfl) (by kernel_rfl) (by kernel_rfl) rfl hS (v_move rfl) ?_
              refine d_one 16 (by kernel_rfl) rfl rfl (d_call3 Try.call8 rfl (chScatter_spec W0 _ pv ps pm dd cl cb al ab fr pg hP hF hd l (sla_base hs) hl (by omega) from_ hf bs hb (sla_base hsb) hbl hcb)) rfl ?_; clear hS
              rintro _ B_ ⟨rfl, hB_⟩
              obtain rfl := hB_.symm
              refine ⟨sc_end, fun hS => ?_⟩
              refine d_one 21 (by kernel_rfl) rfl rfl (d_call3 Try.call19 rfl (rcScatter_spec W0 _ qv qs qm dd cl cb al ab fr pg hP hF hd l (sla_base hs) hl (by omega) from_ hf bs hb (sla_base hsb) hbl)) rfl ?_; clear hS
              rintro _ B_ ⟨rfl, hB_⟩
              obtain rfl := hB_.symm
              refine ⟨sc_end, fun hS => ?_⟩
              refine d_take 22 rfl rfl (by kernel_rfl) (by kernel_rfl) (by kernel_rfl) rfl hS (v_neq rfl rfl) ?_
              refine d_take 23 rfl rfl (by kernel_rfl) (by kernel_rfl) (by kernel_rfl) rfl hS (v_pick_f rfl rfl) ?_
              refine d_done (by kernel_rfl) ?_; clear hS
              refine n_then ?_
              refine x_if rfl ?_ ?_
              · intro c4
                exact absurd rfl c4
              · intro c4
                refine x_skip ?_
                refine n_then ?_
                refine x_seq ?_
                refine x_seq ?_
                obtain ⟨hG, hGl, hGd, _, _⟩ := scK_ok (pg := pg) (l := l) (from_ := from_) (bs := bs) hF hd l.length
                generalize scK fr pg dd l from_ bs l.length = sf at hG hGl hGd
                obtain ⟨x1, x2, fg, dg⟩ := sf
                dsimp only at hG hGl hGd ⊢
                refine x_region ?_
                refine s_val rfl (v_assign rfl) ?_
                refine x_nil ?_
                refine n_then ?_
                refine x_block ?_
                refine x_loop (fun i : Nat => i ≤ 9) (fun i => [(13, .pointer (some ⟨pv, 0, none⟩)), (14, .pointer (some ⟨qv, 0, none⟩)), (15, .int .i64 i)]) (fun i => prH pv ps pm qv qs qm dg fg pg []) (fun i => 9 - i) 0 ?_ ?_ ?_ ?_
                · exact Nat.zero_le _
                · repeat (first | exact sub_nil | refine sub_cons rfl ?_)
                · exact inferInstance
                · intro i hi
                  refine x_seq ?_
                  refine x_seq ?_
                  refine x_region ?_
                  refine s_val rfl (v_move rfl) ?_
                  refine s_val rfl (v_lss rfl rfl) ?_
                  refine x_nil ?_
                  refine n_then ?_
                  refine x_if rfl ?_ ?_
                  · intro c7
                    refine x_skip ?_
                    refine n_then ?_
                    refine x_seq ?_
                    refine x_block ?_
                    refine x_seq ?_
                    refine x_region ?_
                    refine s_val rfl (v_move rfl) ?_
                    refine s_do rfl (d_call1 Try.call20 rfl (viStore_spec W0 _ pv ps pm dg)) ?_
                    rintro _ B_ ⟨rfl, hB_⟩
                    obtain rfl := hB_.symm
                    refine s_val rfl (v_move rfl) ?_
                    refine s_do rfl (d_call1 Try.call21 rfl (frBytes_spec W0 _ ps fg hG i (by omega))) ?_
                    rintro _ B_ ⟨a3, k3, rfl, hB_⟩
                    obtain rfl := hB_.symm
                    refine s_val rfl (v_move rfl) ?_
                    refine s_val rfl (v_extract rfl rfl) ?_
                    refine s_val rfl (v_extract rfl rfl) ?_
                    refine s_val rfl (v_assign rfl) ?_
                    refine s_val rfl (v_assign rfl) ?_
                    refine x_nil ?_
                    refine n_then ?_
                    refine x_seq ?_
                    have hY := (hG.get (f := i) (by omega))
                    refine run_form (E := 5) (sz := 1) (a := a3) (c := k3) (n := 64) (fun hf3 => ?_)
                    refine run_rstoG (qs := qs) (i := i) (by omega) fun a4 k4 vs vi hv hvi => ?_
                    refine run_some (E := 5) (sz := 1) (vi := vi) (byV_ne (by omega)) fun g5 n5 k5 hvie hn5 => ?_
                    subst hvie
                    obtain rfl : n5 = 64 := by rw [byV_len, hY.1] at hn5; omega
                    refine run_some (E := 22) (sz := 1) (vi := .slice a4 fg.length k4) (by intro h0; rw [h0] at hv; simp at hv; omega) fun g6 n6 k6 he6 hn6 => ?_
                    obtain ⟨rfl, _, rfl⟩ := Value.slice.inj he6
                    generalize hYe : fg.getD i [] = Y at hY hf3 ⊢
                    refine x_draw [(qv, 0, _), (qs, 0, _), (g6, 0, vs), (g5, 0, byV Y), (obk a3, 0, byV Y)] 18 mixed rfl (sc_own (sc_own (sc_cons (cells_osl (E := 22) (sz := 1) (a := some ⟨g6, 0, none⟩) (n := fg.length) (c := k4)) (sc_cons (cells_osl (E := 5) (sz := 1) (a := some ⟨g5, 0, none⟩) (n := 64) (c := k5)) (sc_cons (cells_osl (E := 5) (sz := 1) (a := a3) (n := 64) (c := k3)) sc_end))))) (fun hS => ?_)
                    refine d_take 0 rfl rfl (by kernel_rfl) (by kernel_rfl) (by kernel_rfl) rfl hS (v_move rfl) ?_
                    refine d_take 1 rfl rfl (by kernel_rfl) (by kernel_rfl) (by kernel_rfl) rfl hS (v_neq rfl rfl) ?_
                    refine d_take 2 rfl rfl (by kernel_rfl) (by kernel_rfl) (by kernel_rfl) rfl hS (v_move rfl) ?_
                    refine x_split (t := 86) rfl ?_ ?_
                    · intro g10_3
                      exact absurd rfl g10_3
                    · intro g10_3
                      refine d_take 3 rfl rfl (by kernel_rfl) (by kernel_rfl) (by kernel_rfl) rfl hS (v_move rfl) ?_
                      refine d_take 4 rfl rfl (by kernel_rfl) (by kernel_rfl) (by kernel_rfl) rfl hS (v_bstrSN Try.underlying22 Try.underlying5 Try.underlying9 rfl hY.1 (sla_cells hf3 (cells_sc (k := 4) rfl) (fun _ => rfl) (byV_fm _).symm (by decide))) ?_
                      refine d_take 5 rfl rfl (by kernel_rfl) (by kernel_rfl) (by kernel_rfl) rfl hS (v_move rfl) ?_
                      refine d_take 6 rfl rfl (by kernel_rfl) (by kernel_rfl) (by kernel_rfl) rfl hS (v_nilCheck rfl) ?_
                      refine d_take 7 rfl rfl (by kernel_rfl) (by kernel_rfl) (by kernel_rfl) rfl hS (v_fieldAddr rfl Try.underlying70 rfl Try.sizeOf66 rfl (by first | exact Nat.zero_add _ | rfl)) ?_
                      refine d_take 8 rfl rfl (by kernel_rfl) (by kernel_rfl) (by kernel_rfl) rfl hS (v_load Try.isAgg66 rfl (by first | exact cell_sc0 (k := 0) rfl rfl | exact cell_sc0 (k := 1) rfl rfl | exact cell_sc0 (k := 2) rfl rfl | exact cell_sc0 (k := 3) rfl rfl | exact cell_sc0 (k := 4) rfl rfl)) ?_
                      refine d_take 9 rfl rfl (by kernel_rfl) (by kernel_rfl) (by kernel_rfl) rfl hS (v_nilCheck rfl) ?_
                      refine d_take 10 rfl rfl (by kernel_rfl) (by kernel_rfl) (by kernel_rfl) rfl hS (v_fieldAddr rfl Try.underlying65 rfl Try.sizeOf63 rfl (by first | exact Nat.zero_add _ | rfl)) ?_
                      refine d_take 11 rfl rfl (by kernel_rfl) (by kernel_rfl) (by kernel_rfl) rfl hS (v_load Try.isAgg63 rfl (by first | exact cell_sc0 (k := 0) rfl rfl | exact cell_sc0 (k := 1) rfl rfl | exact cell_sc0 (k := 2) rfl rfl | exact cell_sc0 (k := 3) rfl rfl | exact cell_sc0 (k := 4) rfl rfl)) ?_
                      refine d_take 12 rfl rfl (by kernel_rfl) (by kernel_rfl) (by kernel_rfl) rfl hS (v_move rfl) ?_
                      refine d_take 13 rfl rfl (by kernel_rfl) (by kernel_rfl) (by kernel_rfl) rfl hS (v_idx Try.underlying63 Try.sizeOf22 rfl rfl rfl (by omega) (by first | exact Nat.zero_add _ | rfl)) ?_
                      refine d_take 14 rfl rfl (by kernel_rfl) (by kernel_rfl) (by kernel_rfl) rfl hS (v_load Try.isAgg22 rfl (cell_sc0 (k := 2) rfl (by rw [Nat.mul_one]; exact hvi))) ?_
                      refine d_take 15 rfl rfl (by kernel_rfl) (by kernel_rfl) (by kernel_rfl) rfl hS (v_bstrSN Try.underlying22 Try.underlying5 Try.underlying9 rfl hY.1 (sla_cells (.inr ⟨g5, rfl⟩) (cells_sc (k := 3) rfl) (fun _ => rfl) (byV_fm _).symm (by decide))) ?_
                      refine d_take 16 rfl rfl (by kernel_rfl) (by kernel_rfl) (by kernel_rfl) rfl hS (v_neq_str rfl rfl) ?_
                      refine d_take 17 rfl rfl (by kernel_rfl) (by kernel_rfl) (by kernel_rfl) rfl hS (v_pick_f rfl rfl) ?_
                      refine d_done (by kernel_rfl) ?_; clear hS
                      refine n_then ?_
                      refine x_if rfl ?_ ?_
                      · intro c10
                        exact absurd (by simp) c10
                      · intro c10
                        refine x_skip ?_
                        refine n_block ?_
                        refine n_then ?_
                        refine run_rstoU (qs := qs) (fr := fg) (i := i) (n := fg.length) (c := k4) (a := some ⟨g6, 0, none⟩) (vs := vs) (vi := .slice (some ⟨g5, 0, none⟩) 64 k5) hvi (by rw [hYe]) hv rfl (by omega) ?_
                        refine x_region ?_
                        refine s_val rfl (v_move rfl) ?_
                        refine s_val rfl (v_add rfl rfl (by first | exact w64 (by omega) | rfl)) ?_
                        refine s_val rfl (v_assign rfl) ?_
                        refine x_nil ?_
                        refine n_then ?_
                        refine inv_intro (i + 1) ?_ ?_ ?_ ?_
                        · omega
                        · omega
                        · repeat (first | exact sub_nil | refine sub_cons rfl ?_)
                        · exact inferInstance
                  · intro c7
                    refine x_exit ?_
                    refine e_then ?_
                    refine e_then ?_
                    refine e_block ?_
                    refine n_then ?_
                    refine x_seq ?_
                    refine x_region ?_
                    refine s_do rfl (d_call Try.call10 rfl (awake22_spec W0 _)) ?_
                    rintro _ B_ ⟨rfl, hB_⟩
                    obtain rfl := hB_.symm
                    refine s_val rfl (v_assign rfl) ?_
                    refine x_nil ?_
                    refine n_then ?_
                    refine x_ret ?_
                    refine x_done (.inl rfl) (.cons (r_tmp rfl) .nil) ?_
                    exact ⟨_, ⟨rfl, rfl⟩, inferInstance⟩
          · skip
            refine dx_one rfl rfl (d_call3 Try.call18 rfl (rcGather_spec W0 _ qv qs qm dd cl al fr pg hP hF l (sla_base hs) hl (by omega) most hm)) rfl ?_; clear hS
            rintro _ B_ ⟨a2, k2, rfl, hB_⟩
            obtain rfl := hB_.symm
            refine ⟨sc_end, fun hS => ?_⟩
            refine d_all (is := [4, 9]) (by kernel_rfl) rfl ⟨?_, ?_, trivial⟩
            · skip
              refine dx_one rfl rfl (d_val (v_bstr (E' := 5) Try.underlying22 Try.underlying5 Try.underlying9 rfl rfl rfl)) rfl ?_; clear hS
              rintro _ _ ⟨rfl, rfl⟩
              refine ⟨sc_end, fun hS => ?_⟩
              refine d_one 9 (by kernel_rfl) rfl rfl (d_val (v_bstr (E' := 5) Try.underlying22 Try.underlying5 Try.underlying9 rfl rfl rfl)) rfl ?_; clear hS
              rintro _ _ ⟨rfl, rfl⟩
              refine ⟨sc_end, fun hS => ?_⟩
              refine d_take 10 rfl rfl (by kernel_rfl) (by kernel_rfl) (by kernel_rfl) rfl hS (v_neq_str rfl rfl) ?_
              refine d_take 11 rfl rfl (by kernel_rfl) (by kernel_rfl) (by kernel_rfl) rfl hS (v_move rfl) ?_
              refine x_split (t := 60) rfl ?_ ?_
              · intro g4_12
                exact absurd (by simp) g4_12
              · intro g4_12
                refine d_take 12 rfl rfl (by kernel_rfl) (by kernel_rfl) (by kernel_rfl) rfl hS (v_move rfl) ?_
                refine d_take 13 rfl rfl (by kernel_rfl) (by kernel_rfl) (by kernel_rfl) rfl hS (v_move rfl) ?_
                refine d_take 14 rfl rfl (by kernel_rfl) (by kernel_rfl) (by kernel_rfl) rfl hS (v_move rfl) ?_
                refine d_take 15 rfl rfl (by kernel_rfl) (by kernel_rfl) (by kernel_rfl) rfl hS (v_move rfl) ?_
                refine d_take 17 rfl rfl (by kernel_rfl) (by kernel_rfl) (by kernel_rfl) rfl hS (v_move rfl) ?_
                refine d_take 18 rfl rfl (by kernel_rfl) (by kernel_rfl) (by kernel_rfl) rfl hS (v_move rfl) ?_
                refine d_take 19 rfl rfl (by kernel_rfl) (by kernel_rfl) (by kernel_rfl) rfl hS (v_move rfl) ?_
                refine d_take 20 rfl rfl (by kernel_rfl) (by kernel_rfl) (by kernel_rfl) rfl hS (v_move rfl) ?_
                refine d_one 16 (by kernel_rfl) rfl rfl (d_call3 Try.call8 rfl (chScatter_spec W0 _ pv ps pm dd cl cb al ab fr pg hP hF hd l (sla_base hs) hl (by omega) from_ hf bs hb (sla_base hsb) hbl hcb)) rfl ?_; clear hS
                rintro _ B_ ⟨rfl, hB_⟩
                obtain rfl := hB_.symm
                refine ⟨sc_end, fun hS => ?_⟩
                refine d_one 21 (by kernel_rfl) rfl rfl (d_call3 Try.call19 rfl (rcScatter_spec W0 _ qv qs qm dd cl cb al ab fr pg hP hF hd l (sla_base hs) hl (by omega) from_ hf bs hb (sla_base hsb) hbl)) rfl ?_; clear hS
                rintro _ B_ ⟨rfl, hB_⟩
                obtain rfl := hB_.symm
                refine ⟨sc_end, fun hS => ?_⟩
                refine d_take 22 rfl rfl (by kernel_rfl) (by kernel_rfl) (by kernel_rfl) rfl hS (v_neq rfl rfl) ?_
                refine d_take 23 rfl rfl (by kernel_rfl) (by kernel_rfl) (by kernel_rfl) rfl hS (v_pick_f rfl rfl) ?_
                refine d_done (by kernel_rfl) ?_; clear hS
                refine n_then ?_
                refine x_if rfl ?_ ?_
                · intro c4
                  exact absurd rfl c4
                · intro c4
                  refine x_skip ?_
                  refine n_then ?_
                  refine x_seq ?_
                  refine x_seq ?_
                  obtain ⟨hG, hGl, hGd, _, _⟩ := scK_ok (pg := pg) (l := l) (from_ := from_) (bs := bs) hF hd l.length
                  generalize scK fr pg dd l from_ bs l.length = sf at hG hGl hGd
                  obtain ⟨x1, x2, fg, dg⟩ := sf
                  dsimp only at hG hGl hGd ⊢
                  refine x_region ?_
                  refine s_val rfl (v_assign rfl) ?_
                  refine x_nil ?_
                  refine n_then ?_
                  refine x_block ?_
                  refine x_loop (fun i : Nat => i ≤ 9) (fun i => [(13, .pointer (some ⟨pv, 0, none⟩)), (14, .pointer (some ⟨qv, 0, none⟩)), (15, .int .i64 i)]) (fun i => prH pv ps pm qv qs qm dg fg pg []) (fun i => 9 - i) 0 ?_ ?_ ?_ ?_
                  · exact Nat.zero_le _
                  · repeat (first | exact sub_nil | refine sub_cons rfl ?_)
                  · exact inferInstance
                  · intro i hi
                    refine x_seq ?_
                    refine x_seq ?_
                    refine x_region ?_
                    refine s_val rfl (v_move rfl) ?_
                    refine s_val rfl (v_lss rfl rfl) ?_
                    refine x_nil ?_
                    refine n_then ?_
                    refine x_if rfl ?_ ?_
                    · intro c7
                      refine x_skip ?_
                      refine n_then ?_
                      refine x_seq ?_
                      refine x_block ?_
                      refine x_seq ?_
                      refine x_region ?_
                      refine s_val rfl (v_move rfl) ?_
                      refine s_do rfl (d_call1 Try.call20 rfl (viStore_spec W0 _ pv ps pm dg)) ?_
                      rintro _ B_ ⟨rfl, hB_⟩
                      obtain rfl := hB_.symm
                      refine s_val rfl (v_move rfl) ?_
                      refine s_do rfl (d_call1 Try.call21 rfl (frBytes_spec W0 _ ps fg hG i (by omega))) ?_
                      rintro _ B_ ⟨a3, k3, rfl, hB_⟩
                      obtain rfl := hB_.symm
                      refine s_val rfl (v_move rfl) ?_
                      refine s_val rfl (v_extract rfl rfl) ?_
                      refine s_val rfl (v_extract rfl rfl) ?_
                      refine s_val rfl (v_assign rfl) ?_
                      refine s_val rfl (v_assign rfl) ?_
                      refine x_nil ?_
                      refine n_then ?_
                      refine x_seq ?_
                      have hY := (hG.get (f := i) (by omega))
                      refine run_form (E := 5) (sz := 1) (a := a3) (c := k3) (n := 64) (fun hf3 => ?_)
                      refine run_rstoG (qs := qs) (i := i) (by omega) fun a4 k4 vs vi hv hvi => ?_
                      refine run_some (E := 5) (sz := 1) (vi := vi) (byV_ne (by omega)) fun g5 n5 k5 hvie hn5 => ?_
                      subst hvie
                      obtain rfl : n5 = 64 := by rw [byV_len, hY.1] at hn5; omega
                      refine run_some (E := 22) (sz := 1) (vi := .slice a4 fg.length k4) (by intro h0; rw [h0] at hv; simp at hv; omega) fun g6 n6 k6 he6 hn6 => ?_
                      obtain ⟨rfl, _, rfl⟩ := Value.slice.inj he6
                      generalize hYe : fg.getD i [] = Y at hY hf3 ⊢
                      refine x_draw [(qv, 0, _), (qs, 0, _), (g6, 0, vs), (g5, 0, byV Y), (obk a3, 0, byV Y)] 18 mixed rfl (sc_own (sc_own (sc_cons (cells_osl (E := 22) (sz := 1) (a := some ⟨g6, 0, none⟩) (n := fg.length) (c := k4)) (sc_cons (cells_osl (E := 5) (sz := 1) (a := some ⟨g5, 0, none⟩) (n := 64) (c := k5)) (sc_cons (cells_osl (E := 5) (sz := 1) (a := a3) (n := 64) (c := k3)) sc_end))))) (fun hS => ?_)
                      refine d_take 0 rfl rfl (by kernel_rfl) (by kernel_rfl) (by kernel_rfl) rfl hS (v_move rfl) ?_
                      refine d_take 1 rfl rfl (by kernel_rfl) (by kernel_rfl) (by kernel_rfl) rfl hS (v_neq rfl rfl) ?_
                      refine d_take 2 rfl rfl (by kernel_rfl) (by kernel_rfl) (by kernel_rfl) rfl hS (v_move rfl) ?_
                      refine x_split (t := 86) rfl ?_ ?_
                      · intro g10_3
                        exact absurd rfl g10_3
                      · intro g10_3
                        refine d_take 3 rfl rfl (by kernel_rfl) (by kernel_rfl) (by kernel_rfl) rfl hS (v_move rfl) ?_
                        refine d_take 4 rfl rfl (by kernel_rfl) (by kernel_rfl) (by kernel_rfl) rfl hS (v_bstrSN Try.underlying22 Try.underlying5 Try.underlying9 rfl hY.1 (sla_cells hf3 (cells_sc (k := 4) rfl) (fun _ => rfl) (byV_fm _).symm (by decide))) ?_
                        refine d_take 5 rfl rfl (by kernel_rfl) (by kernel_rfl) (by kernel_rfl) rfl hS (v_move rfl) ?_
                        refine d_take 6 rfl rfl (by kernel_rfl) (by kernel_rfl) (by kernel_rfl) rfl hS (v_nilCheck rfl) ?_
                        refine d_take 7 rfl rfl (by kernel_rfl) (by kernel_rfl) (by kernel_rfl) rfl hS (v_fieldAddr rfl Try.underlying70 rfl Try.sizeOf66 rfl (by first | exact Nat.zero_add _ | rfl)) ?_
                        refine d_take 8 rfl rfl (by kernel_rfl) (by kernel_rfl) (by kernel_rfl) rfl hS (v_load Try.isAgg66 rfl (by first | exact cell_sc0 (k := 0) rfl rfl | exact cell_sc0 (k := 1) rfl rfl | exact cell_sc0 (k := 2) rfl rfl | exact cell_sc0 (k := 3) rfl rfl | exact cell_sc0 (k := 4) rfl rfl)) ?_
                        refine d_take 9 rfl rfl (by kernel_rfl) (by kernel_rfl) (by kernel_rfl) rfl hS (v_nilCheck rfl) ?_
                        refine d_take 10 rfl rfl (by kernel_rfl) (by kernel_rfl) (by kernel_rfl) rfl hS (v_fieldAddr rfl Try.underlying65 rfl Try.sizeOf63 rfl (by first | exact Nat.zero_add _ | rfl)) ?_
                        refine d_take 11 rfl rfl (by kernel_rfl) (by kernel_rfl) (by kernel_rfl) rfl hS (v_load Try.isAgg63 rfl (by first | exact cell_sc0 (k := 0) rfl rfl | exact cell_sc0 (k := 1) rfl rfl | exact cell_sc0 (k := 2) rfl rfl | exact cell_sc0 (k := 3) rfl rfl | exact cell_sc0 (k := 4) rfl rfl)) ?_
                        refine d_take 12 rfl rfl (by kernel_rfl) (by kernel_rfl) (by kernel_rfl) rfl hS (v_move rfl) ?_
                        refine d_take 13 rfl rfl (by kernel_rfl) (by kernel_rfl) (by kernel_rfl) rfl hS (v_idx Try.underlying63 Try.sizeOf22 rfl rfl rfl (by omega) (by first | exact Nat.zero_add _ | rfl)) ?_
                        refine d_take 14 rfl rfl (by kernel_rfl) (by kernel_rfl) (by kernel_rfl) rfl hS (v_load Try.isAgg22 rfl (cell_sc0 (k := 2) rfl (by rw [Nat.mul_one]; exact hvi))) ?_
                        refine d_take 15 rfl rfl (by kernel_rfl) (by kernel_rfl) (by kernel_rfl) rfl hS (v_bstrSN Try.underlying22 Try.underlying5 Try.underlying9 rfl hY.1 (sla_cells (.inr ⟨g5, rfl⟩) (cells_sc (k := 3) rfl) (fun _ => rfl) (byV_fm _).symm (by decide))) ?_
                        refine d_take 16 rfl rfl (by kernel_rfl) (by kernel_rfl) (by kernel_rfl) rfl hS (v_neq_str rfl rfl) ?_
                        refine d_take 17 rfl rfl (by kernel_rfl) (by kernel_rfl) (by kernel_rfl) rfl hS (v_pick_f rfl rfl) ?_
                        refine d_done (by kernel_rfl) ?_; clear hS
                        refine n_then ?_
                        refine x_if rfl ?_ ?_
                        · intro c10
                          exact absurd (by simp) c10
                        · intro c10
                          refine x_skip ?_
                          refine n_block ?_
                          refine n_then ?_
                          refine run_rstoU (qs := qs) (fr := fg) (i := i) (n := fg.length) (c := k4) (a := some ⟨g6, 0, none⟩) (vs := vs) (vi := .slice (some ⟨g5, 0, none⟩) 64 k5) hvi (by rw [hYe]) hv rfl (by omega) ?_
                          refine x_region ?_
                          refine s_val rfl (v_move rfl) ?_
                          refine s_val rfl (v_add rfl rfl (by first | exact w64 (by omega) | rfl)) ?_
                          refine s_val rfl (v_assign rfl) ?_
                          refine x_nil ?_
                          refine n_then ?_
                          refine inv_intro (i + 1) ?_ ?_ ?_ ?_
                          · omega
                          · omega
                          · repeat (first | exact sub_nil | refine sub_cons rfl ?_)
                          · exact inferInstance
                    · intro c7
                      refine x_exit ?_
                      refine e_then ?_
                      refine e_then ?_
                      refine e_block ?_
                      refine n_then ?_
                      refine x_seq ?_
                      refine x_region ?_
                      refine s_do rfl (d_call Try.call10 rfl (awake22_spec W0 _)) ?_
                      rintro _ B_ ⟨rfl, hB_⟩
                      obtain rfl := hB_.symm
                      refine s_val rfl (v_assign rfl) ?_
                      refine x_nil ?_
                      refine n_then ?_
                      refine x_ret ?_
                      refine x_done (.inl rfl) (.cons (r_tmp rfl) .nil) ?_
                      exact ⟨_, ⟨rfl, rfl⟩, inferInstance⟩
            · skip
              refine dx_one rfl rfl (d_val (v_bstr (E' := 5) Try.underlying22 Try.underlying5 Try.underlying9 rfl rfl rfl)) rfl ?_; clear hS
              rintro _ _ ⟨rfl, rfl⟩
              refine ⟨sc_end, fun hS => ?_⟩
              refine d_one 4 (by kernel_rfl) rfl rfl (d_val (v_bstr (E' := 5) Try.underlying22 Try.underlying5 Try.underlying9 rfl rfl rfl)) rfl ?_; clear hS
              rintro _ _ ⟨rfl, rfl⟩
              refine ⟨sc_end, fun hS => ?_⟩
              refine d_take 10 rfl rfl (by kernel_rfl) (by kernel_rfl) (by kernel_rfl) rfl hS (v_neq_str rfl rfl) ?_
              refine d_take 11 rfl rfl (by kernel_rfl) (by kernel_rfl) (by kernel_rfl) rfl hS (v_move rfl) ?_
              refine x_split (t := 60) rfl ?_ ?_
              · intro g4_12
                exact absurd (by simp) g4_12
              · intro g4_12
                refine d_take 12 rfl rfl (by kernel_rfl) (by kernel_rfl) (by kernel_rfl) rfl hS (v_move rfl) ?_
                refine d_take 13 rfl rfl (by kernel_rfl) (by kernel_rfl) (by kernel_rfl) rfl hS (v_move rfl) ?_
                refine d_take 14 rfl rfl (by kernel_rfl) (by kernel_rfl) (by kernel_rfl) rfl hS (v_move rfl) ?_
                refine d_take 15 rfl rfl (by kernel_rfl) (by kernel_rfl) (by kernel_rfl) rfl hS (v_move rfl) ?_
                refine d_take 17 rfl rfl (by kernel_rfl) (by kernel_rfl) (by kernel_rfl) rfl hS (v_move rfl) ?_
                refine d_take 18 rfl rfl (by kernel_rfl) (by kernel_rfl) (by kernel_rfl) rfl hS (v_move rfl) ?_
                refine d_take 19 rfl rfl (by kernel_rfl) (by kernel_rfl) (by kernel_rfl) rfl hS (v_move rfl) ?_
                refine d_take 20 rfl rfl (by kernel_rfl) (by kernel_rfl) (by kernel_rfl) rfl hS (v_move rfl) ?_
                refine d_one 16 (by kernel_rfl) rfl rfl (d_call3 Try.call8 rfl (chScatter_spec W0 _ pv ps pm dd cl cb al ab fr pg hP hF hd l (sla_base hs) hl (by omega) from_ hf bs hb (sla_base hsb) hbl hcb)) rfl ?_; clear hS
                rintro _ B_ ⟨rfl, hB_⟩
                obtain rfl := hB_.symm
                refine ⟨sc_end, fun hS => ?_⟩
                refine d_one 21 (by kernel_rfl) rfl rfl (d_call3 Try.call19 rfl (rcScatter_spec W0 _ qv qs qm dd cl cb al ab fr pg hP hF hd l (sla_base hs) hl (by omega) from_ hf bs hb (sla_base hsb) hbl)) rfl ?_; clear hS
                rintro _ B_ ⟨rfl, hB_⟩
                obtain rfl := hB_.symm
                refine ⟨sc_end, fun hS => ?_⟩
                refine d_take 22 rfl rfl (by kernel_rfl) (by kernel_rfl) (by kernel_rfl) rfl hS (v_neq rfl rfl) ?_
                refine d_take 23 rfl rfl (by kernel_rfl) (by kernel_rfl) (by kernel_rfl) rfl hS (v_pick_f rfl rfl) ?_
                refine d_done (by kernel_rfl) ?_; clear hS
                refine n_then ?_
                refine x_if rfl ?_ ?_
                · intro c4
                  exact absurd rfl c4
                · intro c4
                  refine x_skip ?_
                  refine n_then ?_
                  refine x_seq ?_
                  refine x_seq ?_
                  obtain ⟨hG, hGl, hGd, _, _⟩ := scK_ok (pg := pg) (l := l) (from_ := from_) (bs := bs) hF hd l.length
                  generalize scK fr pg dd l from_ bs l.length = sf at hG hGl hGd
                  obtain ⟨x1, x2, fg, dg⟩ := sf
                  dsimp only at hG hGl hGd ⊢
                  refine x_region ?_
                  refine s_val rfl (v_assign rfl) ?_
                  refine x_nil ?_
                  refine n_then ?_
                  refine x_block ?_
                  refine x_loop (fun i : Nat => i ≤ 9) (fun i => [(13, .pointer (some ⟨pv, 0, none⟩)), (14, .pointer (some ⟨qv, 0, none⟩)), (15, .int .i64 i)]) (fun i => prH pv ps pm qv qs qm dg fg pg []) (fun i => 9 - i) 0 ?_ ?_ ?_ ?_
                  · exact Nat.zero_le _
                  · repeat (first | exact sub_nil | refine sub_cons rfl ?_)
                  · exact inferInstance
                  · intro i hi
                    refine x_seq ?_
                    refine x_seq ?_
                    refine x_region ?_
                    refine s_val rfl (v_move rfl) ?_
                    refine s_val rfl (v_lss rfl rfl) ?_
                    refine x_nil ?_
                    refine n_then ?_
                    refine x_if rfl ?_ ?_
                    · intro c7
                      refine x_skip ?_
                      refine n_then ?_
                      refine x_seq ?_
                      refine x_block ?_
                      refine x_seq ?_
                      refine x_region ?_
                      refine s_val rfl (v_move rfl) ?_
                      refine s_do rfl (d_call1 Try.call20 rfl (viStore_spec W0 _ pv ps pm dg)) ?_
                      rintro _ B_ ⟨rfl, hB_⟩
                      obtain rfl := hB_.symm
                      refine s_val rfl (v_move rfl) ?_
                      refine s_do rfl (d_call1 Try.call21 rfl (frBytes_spec W0 _ ps fg hG i (by omega))) ?_
                      rintro _ B_ ⟨a3, k3, rfl, hB_⟩
                      obtain rfl := hB_.symm
                      refine s_val rfl (v_move rfl) ?_
                      refine s_val rfl (v_extract rfl rfl) ?_
                      refine s_val rfl (v_extract rfl rfl) ?_
                      refine s_val rfl (v_assign rfl) ?_
                      refine s_val rfl (v_assign rfl) ?_
                      refine x_nil ?_
                      refine n_then ?_
                      refine x_seq ?_
                      have hY := (hG.get (f := i) (by omega))
                      refine run_form (E := 5) (sz := 1) (a := a3) (c := k3) (n := 64) (fun hf3 => ?_)
                      refine run_rstoG (qs := qs) (i := i) (by omega) fun a4 k4 vs vi hv hvi => ?_
                      refine run_some (E := 5) (sz := 1) (vi := vi) (byV_ne (by omega)) fun g5 n5 k5 hvie hn5 => ?_
                      subst hvie
                      obtain rfl : n5 = 64 := by rw [byV_len, hY.1] at hn5; omega
                      refine run_some (E := 22) (sz := 1) (vi := .slice a4 fg.length k4) (by intro h0; rw [h0] at hv; simp at hv; omega) fun g6 n6 k6 he6 hn6 => ?_
                      obtain ⟨rfl, _, rfl⟩ := Value.slice.inj he6
                      generalize hYe : fg.getD i [] = Y at hY hf3 ⊢
                      refine x_draw [(qv, 0, _), (qs, 0, _), (g6, 0, vs), (g5, 0, byV Y), (obk a3, 0, byV Y)] 18 mixed rfl (sc_own (sc_own (sc_cons (cells_osl (E := 22) (sz := 1) (a := some ⟨g6, 0, none⟩) (n := fg.length) (c := k4)) (sc_cons (cells_osl (E := 5) (sz := 1) (a := some ⟨g5, 0, none⟩) (n := 64) (c := k5)) (sc_cons (cells_osl (E := 5) (sz := 1) (a := a3) (n := 64) (c := k3)) sc_end))))) (fun hS => ?_)
                      refine d_take 0 rfl rfl (by kernel_rfl) (by kernel_rfl) (by kernel_rfl) rfl hS (v_move rfl) ?_
                      refine d_take 1 rfl rfl (by kernel_rfl) (by kernel_rfl) (by kernel_rfl) rfl hS (v_neq rfl rfl) ?_
                      refine d_take 2 rfl rfl (by kernel_rfl) (by kernel_rfl) (by kernel_rfl) rfl hS (v_move rfl) ?_
                      refine x_split (t := 86) rfl ?_ ?_
                      · intro g10_3
                        exact absurd rfl g10_3
                      · intro g10_3
                        refine d_take 3 rfl rfl (by kernel_rfl) (by kernel_rfl) (by kernel_rfl) rfl hS (v_move rfl) ?_
                        refine d_take 4 rfl rfl (by kernel_rfl) (by kernel_rfl) (by kernel_rfl) rfl hS (v_bstrSN Try.underlying22 Try.underlying5 Try.underlying9 rfl hY.1 (sla_cells hf3 (cells_sc (k := 4) rfl) (fun _ => rfl) (byV_fm _).symm (by decide))) ?_
                        refine d_take 5 rfl rfl (by kernel_rfl) (by kernel_rfl) (by kernel_rfl) rfl hS (v_move rfl) ?_
                        refine d_take 6 rfl rfl (by kernel_rfl) (by kernel_rfl) (by kernel_rfl) rfl hS (v_nilCheck rfl) ?_
                        refine d_take 7 rfl rfl (by kernel_rfl) (by kernel_rfl) (by kernel_rfl) rfl hS (v_fieldAddr rfl Try.underlying70 rfl Try.sizeOf66 rfl (by first | exact Nat.zero_add _ | rfl)) ?_
                        refine d_take 8 rfl rfl (by kernel_rfl) (by kernel_rfl) (by kernel_rfl) rfl hS (v_load Try.isAgg66 rfl (by first | exact cell_sc0 (k := 0) rfl rfl | exact cell_sc0 (k := 1) rfl rfl | exact cell_sc0 (k := 2) rfl rfl | exact cell_sc0 (k := 3) rfl rfl | exact cell_sc0 (k := 4) rfl rfl)) ?_
                        refine d_take 9 rfl rfl (by kernel_rfl) (by kernel_rfl) (by kernel_rfl) rfl hS (v_nilCheck rfl) ?_
                        refine d_take 10 rfl rfl (by kernel_rfl) (by kernel_rfl) (by kernel_rfl) rfl hS (v_fieldAddr rfl Try.underlying65 rfl Try.sizeOf63 rfl (by first | exact Nat.zero_add _ | rfl)) ?_
                        refine d_take 11 rfl rfl (by kernel_rfl) (by kernel_rfl) (by kernel_rfl) rfl hS (v_load Try.isAgg63 rfl (by first | exact cell_sc0 (k := 0) rfl rfl | exact cell_sc0 (k := 1) rfl rfl | exact cell_sc0 (k := 2) rfl rfl | exact cell_sc0 (k := 3) rfl rfl | exact cell_sc0 (k := 4) rfl rfl)) ?_
                        refine d_take 12 rfl rfl (by kernel_rfl) (by kernel_rfl) (by kernel_rfl) rfl hS (v_move rfl) ?_
                        refine d_take 13 rfl rfl (by kernel_rfl) (by kernel_rfl) (by kernel_rfl) rfl hS (v_idx Try.underlying63 Try.sizeOf22 rfl rfl rfl (by omega) (by first | exact Nat.zero_add _ | rfl)) ?_
                        refine d_take 14 rfl rfl (by kernel_rfl) (by kernel_rfl) (by kernel_rfl) rfl hS (v_load Try.isAgg22 rfl (cell_sc0 (k := 2) rfl (by rw [Nat.mul_one]; exact hvi))) ?_
                        refine d_take 15 rfl rfl (by kernel_rfl) (by kernel_rfl) (by kernel_rfl) rfl hS (v_bstrSN Try.underlying22 Try.underlying5 Try.underlying9 rfl hY.1 (sla_cells (.inr ⟨g5, rfl⟩) (cells_sc (k := 3) rfl) (fun _ => rfl) (byV_fm _).symm (by decide))) ?_
                        refine d_take 16 rfl rfl (by kernel_rfl) (by kernel_rfl) (by kernel_rfl) rfl hS (v_neq_str rfl rfl) ?_
                        refine d_take 17 rfl rfl (by kernel_rfl) (by kernel_rfl) (by kernel_rfl) rfl hS (v_pick_f rfl rfl) ?_
                        refine d_done (by kernel_rfl) ?_; clear hS
                        refine n_then ?_
                        refine x_if rfl ?_ ?_
                        · intro c10
                          exact absurd (by simp) c10
                        · intro c10
                          refine x_skip ?_
                          refine n_block ?_
                          refine n_then ?_
                          refine run_rstoU (qs := qs) (fr := fg) (i := i) (n := fg.length) (c := k4) (a := some ⟨g6, 0, none⟩) (vs := vs) (vi := .slice (some ⟨g5, 0, none⟩) 64 k5) hvi (by rw [hYe]) hv rfl (by omega) ?_
                          refine x_region ?_
                          refine s_val rfl (v_move rfl) ?_
                          refine s_val rfl (v_add rfl rfl (by first | exact w64 (by omega) | rfl)) ?_
                          refine s_val rfl (v_assign rfl) ?_
                          refine x_nil ?_
                          refine n_then ?_
                          refine inv_intro (i + 1) ?_ ?_ ?_ ?_
                          · omega
                          · omega
                          · repeat (first | exact sub_nil | refine sub_cons rfl ?_)
                          · exact inferInstance
                    · intro c7
                      refine x_exit ?_
                      refine e_then ?_
                      refine e_then ?_
                      refine e_block ?_
                      refine n_then ?_
                      refine x_seq ?_
                      refine x_region ?_
                      refine s_do rfl (d_call Try.call10 rfl (awake22_spec W0 _)) ?_
                      rintro _ B_ ⟨rfl, hB_⟩
                      obtain rfl := hB_.symm
                      refine s_val rfl (v_assign rfl) ?_
                      refine x_nil ?_
                      refine n_then ?_
                      refine x_ret ?_
                      refine x_done (.inl rfl) (.cons (r_tmp rfl) .nil) ?_
                      exact ⟨_, ⟨rfl, rfl⟩, inferInstance⟩
end Go.Proofs.Ytpmacnfjafpdcab
