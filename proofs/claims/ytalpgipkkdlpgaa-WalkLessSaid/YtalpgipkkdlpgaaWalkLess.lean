/-
  The law WalkLess holds: where the user's access lies, the kernel's lies, at the same place, in a page that is there. Conditions: none.
-/
import Derived.Test.YtalpgipkkdlpgaaRows
import Derived.Test.YtalpgipkkdlpgaaWalkLessP
import Derived.Test.YtalpgipkkdlpgaaFrameWalk
namespace Go.Proofs.Ytalpgipkkdlpgaa
open Go.ChangeShapes Go.WideShapes Go.ChangeAt Go.RowKit
set_option linter.unusedSimpArgs false
set_option linter.unusedVariables false
set_option maxRecDepth 20000

theorem WalkLess_walk (W0 : World) (gone : Nat) (hg : gone < 65536) (al : Option Addr) (cl : Nat) (ts : List Pt17) (root : Int) (va : Nat) (hva : va < 4294967296) (kind : Int) (hts : SlB W0 al 2 pt17V ts) (htok : ∀ t ∈ ts, Pt17Ok t) (hl : ts.length < 9223372036854775808) :
    Spec Try.prog W0 3 [.int .u16 gone, .slice al ts.length cl, .int .i64 root, .int .u32 va, .int .i64 kind] [] (fun v B => v = .bool true ∧ B = []) := by
  have hP := pg17_ok gone 10
  obtain ⟨hF, _, _⟩ := mk17_ok gone ts
  by_cases h1 : fnwE (mk17 gone ts).1 (pg17 gone 10) true root true va kind = 0
  · obtain ⟨hk, hX⟩ := fnw_user h1
    have x1 := hX fndP
    have x2 := hX fndF
    have x3 := hX fndO
    clear hX
    refine spec_body Try.func3 Try.ntmps3 rfl rfl ?_
    refine x_seq ?_
    refine x_region ?_
    refine s_val rfl (v_assign rfl) ?_
    refine x_nil ?_
    refine n_then ?_
    refine x_seq ?_
    refine x_region ?_
    refine s_val rfl (v_move rfl) ?_
    refine s_val rfl (v_move rfl) ?_
    refine s_do rfl (d_call Try.call8 rfl (made17_spec W0 _ gone hg _ _ ts (sla_base hts) htok hl)) ?_
    rintro _ B_ ⟨pv, ps, pm, qv, qs, qm, rfl, hB_⟩
    obtain rfl := hB_.symm
    generalize (mk17 gone ts).1 = fr at hF h1 hk x1 x2 x3
    generalize (mk17 gone ts).2 = dd
    generalize pg17 gone 10 = pg at hP h1 hk x1 x2 x3
    refine s_val rfl (v_move rfl) ?_
    refine s_val rfl (v_extract rfl rfl) ?_
    refine s_val rfl (v_extract rfl rfl) ?_
    refine s_val rfl (v_assign rfl) ?_
    refine s_val rfl (v_assign rfl) ?_
    refine x_nil ?_
    refine n_then ?_
    refine x_seq ?_
    refine x_seq ?_
    refine x_region ?_
    refine s_val rfl (v_move rfl) ?_
    refine s_val rfl (v_eql_ptr_nil Try.underlying25 rfl rfl) ?_
    refine x_nil ?_
    refine n_then ?_
    refine x_if rfl ?_ ?_
    · intro c2
      cases c2
    · intro c2
      refine x_skip ?_
      refine n_then ?_
      refine x_seq ?_
      refine x_region ?_
      refine s_val rfl (v_move rfl) ?_
      refine s_val rfl (v_move rfl) ?_
      refine s_val rfl (v_build Try.underlying34 Try.zeroValue34 (sized_cons Try.sizeOf4 (sized_cons Try.sizeOf3 (sized_cons Try.sizeOf4 sized_nil))) (fil_scal rfl Try.sizeOf4 rfl rfl (Nat.le_of_ble_eq_true rfl) SetL.eq (fil_scal rfl Try.sizeOf3 rfl rfl (Nat.le_of_ble_eq_true rfl) SetL.eq (fil_scal rfl Try.sizeOf4 rfl rfl (Nat.le_of_ble_eq_true rfl) SetL.eq fil_nil)))) ?_
      refine s_val rfl (v_move rfl) ?_
      refine s_val rfl (v_move rfl) ?_
      refine s_do rfl (d_call3 Try.call9 rfl (wkFind_spec W0 _ pv ps pm dd fr pg hP hF true root true va hva kind)) ?_
      rintro _ B_ ⟨rfl, hB_⟩
      obtain rfl := hB_.symm
      refine s_val rfl (v_move rfl) ?_
      refine s_val rfl (v_extract rfl rfl) ?_
      refine s_val rfl (v_extract rfl rfl) ?_
      refine s_do rfl (d_allocA Try.zeroValue30) ?_
      rintro _ _ ⟨bh, rfl, rfl⟩
      refine s_do0 (d_storeAll Try.sizeOf30 rfl rfl rfl rfl rfl) ?_
      rintro _ _ rfl
      refine s_val rfl (v_assign rfl) ?_
      refine x_nil ?_
      refine n_then ?_
      refine x_seq ?_
      refine x_region ?_
      refine s_val rfl (v_move rfl) ?_
      refine s_val rfl (v_move rfl) ?_
      refine s_val rfl (v_build Try.underlying34 Try.zeroValue34 (sized_cons Try.sizeOf4 (sized_cons Try.sizeOf3 (sized_cons Try.sizeOf4 sized_nil))) (fil_scal rfl Try.sizeOf4 rfl rfl (Nat.le_of_ble_eq_true rfl) SetL.eq (fil_scal rfl Try.sizeOf3 rfl rfl (Nat.le_of_ble_eq_true rfl) SetL.eq fil_nil))) ?_
      refine s_val rfl (v_move rfl) ?_
      refine s_val rfl (v_move rfl) ?_
      refine s_do rfl (d_call3 Try.call9 rfl (wkFind_spec W0 _ pv ps pm dd fr pg hP hF true root false va hva kind)) ?_
      rintro _ B_ ⟨rfl, hB_⟩
      obtain rfl := hB_.symm
      refine s_val rfl (v_move rfl) ?_
      refine s_val rfl (v_extract rfl rfl) ?_
      refine s_val rfl (v_extract rfl rfl) ?_
      refine s_do rfl (d_allocA Try.zeroValue30) ?_
      rintro _ _ ⟨bk, rfl, rfl⟩
      refine s_do0 (d_storeAll Try.sizeOf30 rfl rfl rfl rfl rfl) ?_
      rintro _ _ rfl
      refine s_val rfl (v_assign rfl) ?_
      refine x_nil ?_
      refine n_then ?_
      refine x_seq ?_
      refine x_seq ?_
      refine x_region ?_
      refine s_val rfl (v_move rfl) ?_
      refine s_val rfl (v_eql rfl rfl) ?_
      refine s_val rfl (v_move rfl) ?_
      refine s_and rfl rfl rfl ?_ ?_
      · intro g6_3
        refine s_val rfl (v_move rfl) ?_
        refine s_yes rfl rfl ?_
        refine s_val rfl (v_neq rfl rfl) ?_
        refine s_yes rfl rfl ?_
        refine s_val rfl (v_move rfl) ?_
        refine s_or rfl rfl rfl ?_ ?_
        · intro g6_6
          exact absurd hk g6_6
        · intro g6_6
          refine s_val rfl (v_loadAll Try.isAgg30 Try.sizeOf30 rfl rfl) ?_
          refine s_yes rfl rfl ?_
          refine s_val rfl (v_loadAll Try.isAgg30 Try.sizeOf30 rfl rfl) ?_
          refine s_yes rfl rfl ?_
          refine s_val rfl (v_neq_agg Try.eqGuardType30 rfl rfl (q_struct Try.underlying30 Try.stoodInHeld30 (qf_scal rfl Try.isAgg3 rfl rfl (q_int Try.underlying3) (qf_scal rfl Try.isAgg3 rfl rfl (q_int Try.underlying3) (qf_scal rfl Try.isAgg3 rfl rfl (q_int Try.underlying3) (qf_scal rfl Try.isAgg4 rfl rfl (q_bool Try.underlying4) qf_nil)))))) ?_
          refine s_yes rfl rfl ?_
          refine s_val rfl (v_pick_f rfl rfl) ?_
          refine s_val rfl (v_pick_t rfl rfl) ?_
          refine s_val rfl (v_move rfl) ?_
          refine s_or rfl rfl rfl ?_ ?_
          · intro g6_12
            exact absurd ⟨x1, x2, x3, rfl, rfl⟩ g6_12
          · intro g6_12
            refine s_val rfl (v_move rfl) ?_
            refine s_yes rfl rfl ?_
            refine s_val rfl (v_neq rfl rfl) ?_
            refine s_yes rfl rfl ?_
            refine s_val rfl (v_move rfl) ?_
            refine s_and rfl rfl rfl ?_ ?_
            · intro g6_15
              exact absurd h1 g6_15
            · intro g6_15
              refine s_no rfl rfl rfl rfl ?_
              refine s_no rfl rfl rfl rfl ?_
              refine s_yes rfl rfl ?_
              refine s_val rfl (v_pick_f rfl rfl) ?_
              refine s_val rfl (v_pick_f rfl rfl) ?_
              refine x_nil ?_
              refine n_then ?_
              refine x_iff rfl ?_
              refine x_skip ?_
              refine n_then ?_
              refine x_seq ?_
              refine x_seq ?_
              refine x_region ?_
              refine s_val rfl (v_move rfl) ?_
              refine s_val rfl (v_neq rfl rfl) ?_
              refine x_nil ?_
              refine n_then ?_
              refine x_if rfl ?_ ?_
              · intro c8
                exact absurd hk c8
              · intro c8
                obtain ⟨t1, t2, t3, t4⟩ := fnw_there hk
                refine x_skip ?_
                refine n_then ?_
                refine x_seq ?_
                refine x_draw [(bk, 0, _)] 11 mixed rfl (sc_own sc_end) (fun hS => ?_)
                refine d_take 0 rfl rfl (by kernel_rfl) (by kernel_rfl) (by kernel_rfl) rfl hS (v_move rfl) ?_
                refine d_take 2 rfl rfl (by kernel_rfl) (by kernel_rfl) (by kernel_rfl) rfl hS (v_fieldAddr rfl Try.underlying30 rfl Try.sizeOf3 rfl (by first | exact Nat.zero_add _ | rfl)) ?_
                refine d_take 3 rfl rfl (by kernel_rfl) (by kernel_rfl) (by kernel_rfl) rfl hS (v_load Try.isAgg3 rfl (cell_sc0 (k := 0) rfl rfl)) ?_
                refine d_all (is := [1, 8]) (by kernel_rfl) rfl ⟨?_, ?_, trivial⟩
                · skip
                  refine dx_one rfl rfl (d_call1 Try.call11 rfl (viMap_spec W0 _ pv ps pm dd)) rfl ?_; clear hS
                  rintro _ B_ ⟨rfl, hB_⟩
                  obtain rfl := hB_.symm
                  refine ⟨(sc_own sc_end), fun hS => ?_⟩
                  refine d_all (is := [4, 8]) (by kernel_rfl) rfl ⟨?_, ?_, trivial⟩
                  · skip
                    refine dx_one rfl rfl (d_call1 Try.call12 rfl (gmGet_spec W0 _ pm pg hP _)) rfl ?_; clear hS
                    rintro _ B_ ⟨rfl, hB_⟩
                    obtain rfl := hB_.symm
                    refine ⟨(sc_own sc_end), fun hS => ?_⟩
                    refine d_take 5 rfl rfl (by kernel_rfl) (by kernel_rfl) (by kernel_rfl) rfl hS (v_move rfl) ?_
                    refine d_take 6 rfl rfl (by kernel_rfl) (by kernel_rfl) (by kernel_rfl) rfl hS (v_extract rfl rfl) ?_
                    refine d_take 7 rfl rfl (by kernel_rfl) (by kernel_rfl) (by kernel_rfl) rfl hS (v_extract rfl rfl) ?_
                    refine d_one 8 (by kernel_rfl) rfl rfl (d_allocA Try.zeroValue37) rfl ?_; clear hS
                    rintro _ _ ⟨b3, rfl, rfl⟩
                    refine ⟨(sc_own sc_end), fun hS => ?_⟩
                    refine d_one 9 (by kernel_rfl) rfl rfl (d_storeAll Try.sizeOf37 rfl rfl rfl rfl rfl) rfl ?_; clear hS
                    rintro _ _ rfl
                    refine ⟨(sc_own sc_end), fun hS => ?_⟩
                    refine d_take 10 rfl rfl (by kernel_rfl) (by kernel_rfl) (by kernel_rfl) rfl hS (v_assign rfl) ?_
                    refine d_done (by kernel_rfl) ?_; clear hS
                    refine n_then ?_
                    refine x_seq ?_
                    refine x_region ?_
                    refine s_val rfl (v_move rfl) ?_
                    refine s_val rfl (v_move rfl) ?_
                    refine s_and rfl rfl rfl ?_ ?_
                    · intro g11_2
                      refine s_val rfl (v_fieldAddr rfl Try.underlying37 rfl Try.sizeOf3 rfl (by first | exact Nat.zero_add _ | rfl)) ?_
                      refine s_yes rfl rfl ?_
                      refine s_val rfl (v_load Try.isAgg3 rfl (cell_own rfl)) ?_
                      refine s_yes rfl rfl ?_
                      refine s_val rfl (v_fieldAddr rfl Try.underlying30 rfl Try.sizeOf3 rfl (by first | exact Nat.zero_add _ | rfl)) ?_
                      refine s_yes rfl rfl ?_
                      refine s_val rfl (v_load Try.isAgg3 rfl (cell_own rfl)) ?_
                      refine s_yes rfl rfl ?_
                      refine s_val rfl (v_eql rfl rfl) ?_
                      refine s_val rfl (v_pick_t rfl rfl) ?_
                      refine s_val rfl (v_move rfl) ?_
                      refine s_and rfl rfl rfl ?_ ?_
                      · intro g11_9
                        refine s_val rfl (v_fieldAddr rfl Try.underlying30 rfl Try.sizeOf3 rfl (by first | exact Nat.zero_add _ | rfl)) ?_
                        refine s_yes rfl rfl ?_
                        refine s_val rfl (v_load Try.isAgg3 rfl (cell_own rfl)) ?_
                        refine s_yes rfl rfl ?_
                        refine s_val rfl (v_move rfl) ?_
                        refine s_yes rfl rfl ?_
                        refine s_val rfl (v_rem rfl rfl (by decide) (tmodN va 64)) ?_
                        refine s_yes rfl rfl ?_
                        refine s_val rfl (v_conv Try.underlying24 Try.underlying3 rfl (w64 (by omega))) ?_
                        refine s_yes rfl rfl ?_
                        refine s_val rfl (v_eql rfl rfl) ?_
                        refine s_val rfl (v_pick_t rfl rfl) ?_
                        refine s_val rfl (v_move rfl) ?_
                        refine s_and rfl rfl rfl ?_ ?_
                        · intro g11_17
                          refine s_val rfl (v_move rfl) ?_
                          refine s_yes rfl rfl ?_
                          refine s_val rfl (v_neq rfl rfl) ?_
                          refine s_yes rfl rfl ?_
                          refine s_val rfl (v_move rfl) ?_
                          refine s_or rfl rfl rfl ?_ ?_
                          · intro g11_20
                            refine s_no rfl rfl rfl rfl ?_
                            refine s_no rfl rfl rfl rfl ?_
                            refine s_yes rfl rfl ?_
                            refine s_val rfl (v_pick_t rfl rfl) ?_
                            refine s_val rfl (v_pick_t rfl rfl) ?_
                            refine s_val rfl (v_move rfl) ?_
                            refine s_yes rfl rfl ?_
                            refine s_do rfl (d_call Try.call10 rfl (awake17_spec W0 _)) ?_
                            rintro _ B_ ⟨rfl, hB_⟩
                            obtain rfl := hB_.symm
                            refine s_val rfl (v_pick_t rfl rfl) ?_
                            refine s_val rfl (v_assign rfl) ?_
                            refine x_nil ?_
                            refine n_then ?_
                            refine x_ret ?_
                            refine x_done (.inl rfl) (.cons (r_tmp rfl) .nil) ?_
                            exact ⟨_, ⟨rfl, rfl⟩, inferInstance⟩
                          · intro g11_20
                            refine s_val rfl (v_fieldAddr rfl Try.underlying30 rfl Try.sizeOf3 rfl (by first | exact Nat.zero_add _ | rfl)) ?_
                            refine s_yes rfl rfl ?_
                            refine s_val rfl (v_load Try.isAgg3 rfl (cell_own rfl)) ?_
                            refine s_yes rfl rfl ?_
                            refine s_val rfl (v_lss rfl rfl) ?_
                            refine s_yes rfl rfl ?_
                            refine s_val rfl (v_pick_f rfl rfl) ?_
                            refine s_val rfl (v_pick_t rfl rfl) ?_
                            refine s_val rfl (v_move rfl) ?_
                            refine s_and rfl rfl rfl ?_ ?_
                            · intro g11_26
                              refine s_do rfl (d_call Try.call10 rfl (awake17_spec W0 _)) ?_
                              rintro _ B_ ⟨rfl, hB_⟩
                              obtain rfl := hB_.symm
                              refine s_val rfl (v_pick_t rfl rfl) ?_
                              refine s_val rfl (v_assign rfl) ?_
                              refine x_nil ?_
                              refine n_then ?_
                              refine x_ret ?_
                              refine x_done (.inl rfl) (.cons (r_tmp rfl) .nil) ?_
                              exact ⟨_, ⟨rfl, rfl⟩, inferInstance⟩
                            · intro g11_26
                              first | exact absurd rfl g11_26 | exact t4.elim (fun q => absurd q g11_20) (fun q => absurd q g11_26)
                        · intro g11_17
                          exact absurd t3 g11_17
                      · intro g11_9
                        exact absurd t2 g11_9
                    · intro g11_2
                      exact absurd t1 g11_2
                  · skip
                    refine dx_one rfl rfl (d_allocA Try.zeroValue37) rfl ?_; clear hS
                    rintro _ _ ⟨b3, rfl, rfl⟩
                    refine ⟨(sc_own sc_end), fun hS => ?_⟩
                    refine d_one 4 (by kernel_rfl) rfl rfl (d_call1 Try.call12 rfl (gmGet_spec W0 _ pm pg hP _)) rfl ?_; clear hS
                    rintro _ B_ ⟨rfl, hB_⟩
                    obtain rfl := hB_.symm
                    refine ⟨(sc_own sc_end), fun hS => ?_⟩
                    refine d_take 5 rfl rfl (by kernel_rfl) (by kernel_rfl) (by kernel_rfl) rfl hS (v_move rfl) ?_
                    refine d_take 6 rfl rfl (by kernel_rfl) (by kernel_rfl) (by kernel_rfl) rfl hS (v_extract rfl rfl) ?_
                    refine d_take 7 rfl rfl (by kernel_rfl) (by kernel_rfl) (by kernel_rfl) rfl hS (v_extract rfl rfl) ?_
                    refine d_one 9 (by kernel_rfl) rfl rfl (d_storeAll Try.sizeOf37 rfl rfl rfl rfl rfl) rfl ?_; clear hS
                    rintro _ _ rfl
                    refine ⟨(sc_own sc_end), fun hS => ?_⟩
                    refine d_take 10 rfl rfl (by kernel_rfl) (by kernel_rfl) (by kernel_rfl) rfl hS (v_assign rfl) ?_
                    refine d_done (by kernel_rfl) ?_; clear hS
                    refine n_then ?_
                    refine x_seq ?_
                    refine x_region ?_
                    refine s_val rfl (v_move rfl) ?_
                    refine s_val rfl (v_move rfl) ?_
                    refine s_and rfl rfl rfl ?_ ?_
                    · intro g11_2
                      refine s_val rfl (v_fieldAddr rfl Try.underlying37 rfl Try.sizeOf3 rfl (by first | exact Nat.zero_add _ | rfl)) ?_
                      refine s_yes rfl rfl ?_
                      refine s_val rfl (v_load Try.isAgg3 rfl (cell_own rfl)) ?_
                      refine s_yes rfl rfl ?_
                      refine s_val rfl (v_fieldAddr rfl Try.underlying30 rfl Try.sizeOf3 rfl (by first | exact Nat.zero_add _ | rfl)) ?_
                      refine s_yes rfl rfl ?_
                      refine s_val rfl (v_load Try.isAgg3 rfl (cell_own rfl)) ?_
                      refine s_yes rfl rfl ?_
                      refine s_val rfl (v_eql rfl rfl) ?_
                      refine s_val rfl (v_pick_t rfl rfl) ?_
                      refine s_val rfl (v_move rfl) ?_
                      refine s_and rfl rfl rfl ?_ ?_
                      · intro g11_9
                        refine s_val rfl (v_fieldAddr rfl Try.underlying30 rfl Try.sizeOf3 rfl (by first | exact Nat.zero_add _ | rfl)) ?_
                        refine s_yes rfl rfl ?_
                        refine s_val rfl (v_load Try.isAgg3 rfl (cell_own rfl)) ?_
                        refine s_yes rfl rfl ?_
                        refine s_val rfl (v_move rfl) ?_
                        refine s_yes rfl rfl ?_
                        refine s_val rfl (v_rem rfl rfl (by decide) (tmodN va 64)) ?_
                        refine s_yes rfl rfl ?_
                        refine s_val rfl (v_conv Try.underlying24 Try.underlying3 rfl (w64 (by omega))) ?_
                        refine s_yes rfl rfl ?_
                        refine s_val rfl (v_eql rfl rfl) ?_
                        refine s_val rfl (v_pick_t rfl rfl) ?_
                        refine s_val rfl (v_move rfl) ?_
                        refine s_and rfl rfl rfl ?_ ?_
                        · intro g11_17
                          refine s_val rfl (v_move rfl) ?_
                          refine s_yes rfl rfl ?_
                          refine s_val rfl (v_neq rfl rfl) ?_
                          refine s_yes rfl rfl ?_
                          refine s_val rfl (v_move rfl) ?_
                          refine s_or rfl rfl rfl ?_ ?_
                          · intro g11_20
                            refine s_no rfl rfl rfl rfl ?_
                            refine s_no rfl rfl rfl rfl ?_
                            refine s_yes rfl rfl ?_
                            refine s_val rfl (v_pick_t rfl rfl) ?_
                            refine s_val rfl (v_pick_t rfl rfl) ?_
                            refine s_val rfl (v_move rfl) ?_
                            refine s_yes rfl rfl ?_
                            refine s_do rfl (d_call Try.call10 rfl (awake17_spec W0 _)) ?_
                            rintro _ B_ ⟨rfl, hB_⟩
                            obtain rfl := hB_.symm
                            refine s_val rfl (v_pick_t rfl rfl) ?_
                            refine s_val rfl (v_assign rfl) ?_
                            refine x_nil ?_
                            refine n_then ?_
                            refine x_ret ?_
                            refine x_done (.inl rfl) (.cons (r_tmp rfl) .nil) ?_
                            exact ⟨_, ⟨rfl, rfl⟩, inferInstance⟩
                          · intro g11_20
                            refine s_val rfl (v_fieldAddr rfl Try.underlying30 rfl Try.sizeOf3 rfl (by first | exact Nat.zero_add _ | rfl)) ?_
                            refine s_yes rfl rfl ?_
                            refine s_val rfl (v_load Try.isAgg3 rfl (cell_own rfl)) ?_
                            refine s_yes rfl rfl ?_
                            refine s_val rfl (v_lss rfl rfl) ?_
                            refine s_yes rfl rfl ?_
                            refine s_val rfl (v_pick_f rfl rfl) ?_
                            refine s_val rfl (v_pick_t rfl rfl) ?_
                            refine s_val rfl (v_move rfl) ?_
                            refine s_and rfl rfl rfl ?_ ?_
                            · intro g11_26
                              refine s_do rfl (d_call Try.call10 rfl (awake17_spec W0 _)) ?_
                              rintro _ B_ ⟨rfl, hB_⟩
                              obtain rfl := hB_.symm
                              refine s_val rfl (v_pick_t rfl rfl) ?_
                              refine s_val rfl (v_assign rfl) ?_
                              refine x_nil ?_
                              refine n_then ?_
                              refine x_ret ?_
                              refine x_done (.inl rfl) (.cons (r_tmp rfl) .nil) ?_
                              exact ⟨_, ⟨rfl, rfl⟩, inferInstance⟩
                            · intro g11_26
                              first | exact absurd rfl g11_26 | exact t4.elim (fun q => absurd q g11_20) (fun q => absurd q g11_26)
                        · intro g11_17
                          exact absurd t3 g11_17
                      · intro g11_9
                        exact absurd t2 g11_9
                    · intro g11_2
                      exact absurd t1 g11_2
                · skip
                  refine dx_one rfl rfl (d_allocA Try.zeroValue37) rfl ?_; clear hS
                  rintro _ _ ⟨b3, rfl, rfl⟩
                  refine ⟨(sc_own sc_end), fun hS => ?_⟩
                  refine d_one 1 (by kernel_rfl) rfl rfl (d_call1 Try.call11 rfl (viMap_spec W0 _ pv ps pm dd)) rfl ?_; clear hS
                  rintro _ B_ ⟨rfl, hB_⟩
                  obtain rfl := hB_.symm
                  refine ⟨(sc_own sc_end), fun hS => ?_⟩
                  refine d_one 4 (by kernel_rfl) rfl rfl (d_call1 Try.call12 rfl (gmGet_spec W0 _ pm pg hP _)) rfl ?_; clear hS
                  rintro _ B_ ⟨rfl, hB_⟩
                  obtain rfl := hB_.symm
                  refine ⟨(sc_own sc_end), fun hS => ?_⟩
                  refine d_take 5 rfl rfl (by kernel_rfl) (by kernel_rfl) (by kernel_rfl) rfl hS (v_move rfl) ?_
                  refine d_take 6 rfl rfl (by kernel_rfl) (by kernel_rfl) (by kernel_rfl) rfl hS (v_extract rfl rfl) ?_
                  refine d_take 7 rfl rfl (by kernel_rfl) (by kernel_rfl) (by kernel_rfl) rfl hS (v_extract rfl rfl) ?_
                  refine d_one 9 (by kernel_rfl) rfl rfl (d_storeAll Try.sizeOf37 rfl rfl rfl rfl rfl) rfl ?_; clear hS
                  rintro _ _ rfl
                  refine ⟨(sc_own sc_end), fun hS => ?_⟩
                  refine d_take 10 rfl rfl (by kernel_rfl) (by kernel_rfl) (by kernel_rfl) rfl hS (v_assign rfl) ?_
                  refine d_done (by kernel_rfl) ?_; clear hS
                  refine n_then ?_
                  refine x_seq ?_
                  refine x_region ?_
                  refine s_val rfl (v_move rfl) ?_
                  refine s_val rfl (v_move rfl) ?_
                  refine s_and rfl rfl rfl ?_ ?_
                  · intro g11_2
                    refine s_val rfl (v_fieldAddr rfl Try.underlying37 rfl Try.sizeOf3 rfl (by first | exact Nat.zero_add _ | rfl)) ?_
                    refine s_yes rfl rfl ?_
                    refine s_val rfl (v_load Try.isAgg3 rfl (cell_own rfl)) ?_
                    refine s_yes rfl rfl ?_
                    refine s_val rfl (v_fieldAddr rfl Try.underlying30 rfl Try.sizeOf3 rfl (by first | exact Nat.zero_add _ | rfl)) ?_
                    refine s_yes rfl rfl ?_
                    refine s_val rfl (v_load Try.isAgg3 rfl (cell_own rfl)) ?_
                    refine s_yes rfl rfl ?_
                    refine s_val rfl (v_eql rfl rfl) ?_
                    refine s_val rfl (v_pick_t rfl rfl) ?_
                    refine s_val rfl (v_move rfl) ?_
                    refine s_and rfl rfl rfl ?_ ?_
                    · intro g11_9
                      refine s_val rfl (v_fieldAddr rfl Try.underlying30 rfl Try.sizeOf3 rfl (by first | exact Nat.zero_add _ | rfl)) ?_
                      refine s_yes rfl rfl ?_
                      refine s_val rfl (v_load Try.isAgg3 rfl (cell_own rfl)) ?_
                      refine s_yes rfl rfl ?_
                      refine s_val rfl (v_move rfl) ?_
                      refine s_yes rfl rfl ?_
                      refine s_val rfl (v_rem rfl rfl (by decide) (tmodN va 64)) ?_
                      refine s_yes rfl rfl ?_
                      refine s_val rfl (v_conv Try.underlying24 Try.underlying3 rfl (w64 (by omega))) ?_
                      refine s_yes rfl rfl ?_
                      refine s_val rfl (v_eql rfl rfl) ?_
                      refine s_val rfl (v_pick_t rfl rfl) ?_
                      refine s_val rfl (v_move rfl) ?_
                      refine s_and rfl rfl rfl ?_ ?_
                      · intro g11_17
                        refine s_val rfl (v_move rfl) ?_
                        refine s_yes rfl rfl ?_
                        refine s_val rfl (v_neq rfl rfl) ?_
                        refine s_yes rfl rfl ?_
                        refine s_val rfl (v_move rfl) ?_
                        refine s_or rfl rfl rfl ?_ ?_
                        · intro g11_20
                          refine s_no rfl rfl rfl rfl ?_
                          refine s_no rfl rfl rfl rfl ?_
                          refine s_yes rfl rfl ?_
                          refine s_val rfl (v_pick_t rfl rfl) ?_
                          refine s_val rfl (v_pick_t rfl rfl) ?_
                          refine s_val rfl (v_move rfl) ?_
                          refine s_yes rfl rfl ?_
                          refine s_do rfl (d_call Try.call10 rfl (awake17_spec W0 _)) ?_
                          rintro _ B_ ⟨rfl, hB_⟩
                          obtain rfl := hB_.symm
                          refine s_val rfl (v_pick_t rfl rfl) ?_
                          refine s_val rfl (v_assign rfl) ?_
                          refine x_nil ?_
                          refine n_then ?_
                          refine x_ret ?_
                          refine x_done (.inl rfl) (.cons (r_tmp rfl) .nil) ?_
                          exact ⟨_, ⟨rfl, rfl⟩, inferInstance⟩
                        · intro g11_20
                          refine s_val rfl (v_fieldAddr rfl Try.underlying30 rfl Try.sizeOf3 rfl (by first | exact Nat.zero_add _ | rfl)) ?_
                          refine s_yes rfl rfl ?_
                          refine s_val rfl (v_load Try.isAgg3 rfl (cell_own rfl)) ?_
                          refine s_yes rfl rfl ?_
                          refine s_val rfl (v_lss rfl rfl) ?_
                          refine s_yes rfl rfl ?_
                          refine s_val rfl (v_pick_f rfl rfl) ?_
                          refine s_val rfl (v_pick_t rfl rfl) ?_
                          refine s_val rfl (v_move rfl) ?_
                          refine s_and rfl rfl rfl ?_ ?_
                          · intro g11_26
                            refine s_do rfl (d_call Try.call10 rfl (awake17_spec W0 _)) ?_
                            rintro _ B_ ⟨rfl, hB_⟩
                            obtain rfl := hB_.symm
                            refine s_val rfl (v_pick_t rfl rfl) ?_
                            refine s_val rfl (v_assign rfl) ?_
                            refine x_nil ?_
                            refine n_then ?_
                            refine x_ret ?_
                            refine x_done (.inl rfl) (.cons (r_tmp rfl) .nil) ?_
                            exact ⟨_, ⟨rfl, rfl⟩, inferInstance⟩
                          · intro g11_26
                            first | exact absurd rfl g11_26 | exact t4.elim (fun q => absurd q g11_20) (fun q => absurd q g11_26)
                      · intro g11_17
                        exact absurd t3 g11_17
                    · intro g11_9
                      exact absurd t2 g11_9
                  · intro g11_2
                    exact absurd t1 g11_2
      · intro g6_3
        exact absurd h1 g6_3
  · obtain ⟨z1, z2, z3⟩ := fnw_zero h1
    refine spec_body Try.func3 Try.ntmps3 rfl rfl ?_
    refine x_seq ?_
    refine x_region ?_
    refine s_val rfl (v_assign rfl) ?_
    refine x_nil ?_
    refine n_then ?_
    refine x_seq ?_
    refine x_region ?_
    refine s_val rfl (v_move rfl) ?_
    refine s_val rfl (v_move rfl) ?_
    refine s_do rfl (d_call Try.call8 rfl (made17_spec W0 _ gone hg _ _ ts (sla_base hts) htok hl)) ?_
    rintro _ B_ ⟨pv, ps, pm, qv, qs, qm, rfl, hB_⟩
    obtain rfl := hB_.symm
    generalize (mk17 gone ts).1 = fr at hF h1 z1 z2 z3
    generalize (mk17 gone ts).2 = dd
    generalize pg17 gone 10 = pg at hP h1 z1 z2 z3
    refine s_val rfl (v_move rfl) ?_
    refine s_val rfl (v_extract rfl rfl) ?_
    refine s_val rfl (v_extract rfl rfl) ?_
    refine s_val rfl (v_assign rfl) ?_
    refine s_val rfl (v_assign rfl) ?_
    refine x_nil ?_
    refine n_then ?_
    refine x_seq ?_
    refine x_seq ?_
    refine x_region ?_
    refine s_val rfl (v_move rfl) ?_
    refine s_val rfl (v_eql_ptr_nil Try.underlying25 rfl rfl) ?_
    refine x_nil ?_
    refine n_then ?_
    refine x_if rfl ?_ ?_
    · intro c2
      cases c2
    · intro c2
      refine x_skip ?_
      refine n_then ?_
      refine x_seq ?_
      refine x_region ?_
      refine s_val rfl (v_move rfl) ?_
      refine s_val rfl (v_move rfl) ?_
      refine s_val rfl (v_build Try.underlying34 Try.zeroValue34 (sized_cons Try.sizeOf4 (sized_cons Try.sizeOf3 (sized_cons Try.sizeOf4 sized_nil))) (fil_scal rfl Try.sizeOf4 rfl rfl (Nat.le_of_ble_eq_true rfl) SetL.eq (fil_scal rfl Try.sizeOf3 rfl rfl (Nat.le_of_ble_eq_true rfl) SetL.eq (fil_scal rfl Try.sizeOf4 rfl rfl (Nat.le_of_ble_eq_true rfl) SetL.eq fil_nil)))) ?_
      refine s_val rfl (v_move rfl) ?_
      refine s_val rfl (v_move rfl) ?_
      refine s_do rfl (d_call3 Try.call9 rfl (wkFind_spec W0 _ pv ps pm dd fr pg hP hF true root true va hva kind)) ?_
      rintro _ B_ ⟨rfl, hB_⟩
      obtain rfl := hB_.symm
      refine s_val rfl (v_move rfl) ?_
      refine s_val rfl (v_extract rfl rfl) ?_
      refine s_val rfl (v_extract rfl rfl) ?_
      refine s_do rfl (d_allocA Try.zeroValue30) ?_
      rintro _ _ ⟨bh, rfl, rfl⟩
      refine s_do0 (d_storeAll Try.sizeOf30 rfl rfl rfl rfl rfl) ?_
      rintro _ _ rfl
      refine s_val rfl (v_assign rfl) ?_
      refine x_nil ?_
      refine n_then ?_
      refine x_seq ?_
      refine x_region ?_
      refine s_val rfl (v_move rfl) ?_
      refine s_val rfl (v_move rfl) ?_
      refine s_val rfl (v_build Try.underlying34 Try.zeroValue34 (sized_cons Try.sizeOf4 (sized_cons Try.sizeOf3 (sized_cons Try.sizeOf4 sized_nil))) (fil_scal rfl Try.sizeOf4 rfl rfl (Nat.le_of_ble_eq_true rfl) SetL.eq (fil_scal rfl Try.sizeOf3 rfl rfl (Nat.le_of_ble_eq_true rfl) SetL.eq fil_nil))) ?_
      refine s_val rfl (v_move rfl) ?_
      refine s_val rfl (v_move rfl) ?_
      refine s_do rfl (d_call3 Try.call9 rfl (wkFind_spec W0 _ pv ps pm dd fr pg hP hF true root false va hva kind)) ?_
      rintro _ B_ ⟨rfl, hB_⟩
      obtain rfl := hB_.symm
      refine s_val rfl (v_move rfl) ?_
      refine s_val rfl (v_extract rfl rfl) ?_
      refine s_val rfl (v_extract rfl rfl) ?_
      refine s_do rfl (d_allocA Try.zeroValue30) ?_
      rintro _ _ ⟨bk, rfl, rfl⟩
      refine s_do0 (d_storeAll Try.sizeOf30 rfl rfl rfl rfl rfl) ?_
      rintro _ _ rfl
      refine s_val rfl (v_assign rfl) ?_
      refine x_nil ?_
      refine n_then ?_
      refine x_seq ?_
      refine x_seq ?_
      refine x_region ?_
      refine s_val rfl (v_move rfl) ?_
      refine s_val rfl (v_eql rfl rfl) ?_
      refine s_val rfl (v_move rfl) ?_
      refine s_and rfl rfl rfl ?_ ?_
      · intro g6_3
        exact absurd g6_3 h1
      · intro g6_3
        refine s_no rfl rfl rfl rfl ?_
        refine s_no rfl rfl rfl rfl ?_
        refine s_nou rfl rfl rfl ?_
        refine s_nou rfl rfl rfl ?_
        refine s_nou rfl rfl rfl ?_
        refine s_no rfl rfl rfl rfl ?_
        refine s_val rfl (v_pick_f rfl rfl) ?_
        refine s_val rfl (v_move rfl) ?_
        refine s_yes rfl rfl ?_
        refine s_val rfl (v_move rfl) ?_
        refine s_yes rfl rfl ?_
        refine s_val rfl (v_neq rfl rfl) ?_
        refine s_yes rfl rfl ?_
        refine s_val rfl (v_move rfl) ?_
        refine s_and rfl rfl rfl ?_ ?_
        · intro g6_15
          refine s_val rfl (v_loadAll Try.isAgg30 Try.sizeOf30 rfl rfl) ?_
          refine s_yes rfl rfl ?_
          refine s_val rfl (v_build Try.underlying30 Try.zeroValue30 (sized_cons Try.sizeOf3 (sized_cons Try.sizeOf3 (sized_cons Try.sizeOf3 (sized_cons Try.sizeOf4 sized_nil)))) fil_nil) ?_
          refine s_yes rfl rfl ?_
          refine s_val rfl (v_neq_agg Try.eqGuardType30 rfl rfl (q_struct Try.underlying30 Try.stoodInHeld30 (qf_scal rfl Try.isAgg3 rfl rfl (q_int Try.underlying3) (qf_scal rfl Try.isAgg3 rfl rfl (q_int Try.underlying3) (qf_scal rfl Try.isAgg3 rfl rfl (q_int Try.underlying3) (qf_scal rfl Try.isAgg4 rfl rfl (q_bool Try.underlying4) qf_nil)))))) ?_
          refine s_yes rfl rfl ?_
          refine s_val rfl (v_pick_t rfl rfl) ?_
          refine s_val rfl (v_pick_f rfl rfl) ?_
          refine x_nil ?_
          refine n_then ?_
          refine x_if rfl ?_ ?_
          · intro c6
            first | exact absurd ⟨z1, z2, z3, rfl, rfl⟩ c6 | simp_all
          · intro c6
            refine x_skip ?_
            refine n_then ?_
            refine x_seq ?_
            refine x_seq ?_
            refine x_region ?_
            refine s_val rfl (v_move rfl) ?_
            refine s_val rfl (v_neq rfl rfl) ?_
            refine x_nil ?_
            refine n_then ?_
            refine x_if rfl ?_ ?_
            · intro c8
              obtain ⟨y1, y2, y3⟩ := fnw_zero c8
              refine x_seq ?_
              refine x_region ?_
              refine s_val rfl (v_loadAll Try.isAgg30 Try.sizeOf30 rfl rfl) ?_
              refine s_val rfl (v_build Try.underlying30 Try.zeroValue30 (sized_cons Try.sizeOf3 (sized_cons Try.sizeOf3 (sized_cons Try.sizeOf3 (sized_cons Try.sizeOf4 sized_nil)))) fil_nil) ?_
              refine s_val rfl (v_eql_agg Try.eqGuardType30 rfl rfl (q_struct Try.underlying30 Try.stoodInHeld30 (qf_scal rfl Try.isAgg3 rfl rfl (q_int Try.underlying3) (qf_scal rfl Try.isAgg3 rfl rfl (q_int Try.underlying3) (qf_scal rfl Try.isAgg3 rfl rfl (q_int Try.underlying3) (qf_scal rfl Try.isAgg4 rfl rfl (q_bool Try.underlying4) qf_nil)))))) ?_
              refine s_val rfl (v_move rfl) ?_
              refine s_and rfl rfl rfl ?_ ?_
              · intro g9_4
                refine s_do rfl (d_call Try.call10 rfl (awake17_spec W0 _)) ?_
                rintro _ B_ ⟨rfl, hB_⟩
                obtain rfl := hB_.symm
                refine s_val rfl (v_pick_t rfl rfl) ?_
                refine s_val rfl (v_assign rfl) ?_
                refine x_nil ?_
                refine n_then ?_
                refine x_ret ?_
                refine r_then ?_
                refine x_done (.inl rfl) (.cons (r_tmp rfl) .nil) ?_
                exact ⟨_, ⟨rfl, rfl⟩, inferInstance⟩
              · intro g9_4
                exact absurd ⟨y1, y2, y3, rfl, rfl⟩ g9_4
            · intro c8
              obtain ⟨t1, t2, t3, t4⟩ := fnw_there (Decidable.not_not.1 c8)
              refine x_skip ?_
              refine n_then ?_
              refine x_seq ?_
              refine x_draw [(bk, 0, _)] 11 mixed rfl (sc_own sc_end) (fun hS => ?_)
              refine d_take 0 rfl rfl (by kernel_rfl) (by kernel_rfl) (by kernel_rfl) rfl hS (v_move rfl) ?_
              refine d_take 2 rfl rfl (by kernel_rfl) (by kernel_rfl) (by kernel_rfl) rfl hS (v_fieldAddr rfl Try.underlying30 rfl Try.sizeOf3 rfl (by first | exact Nat.zero_add _ | rfl)) ?_
              refine d_take 3 rfl rfl (by kernel_rfl) (by kernel_rfl) (by kernel_rfl) rfl hS (v_load Try.isAgg3 rfl (cell_sc0 (k := 0) rfl rfl)) ?_
              refine d_all (is := [1, 8]) (by kernel_rfl) rfl ⟨?_, ?_, trivial⟩
              · skip
                refine dx_one rfl rfl (d_call1 Try.call11 rfl (viMap_spec W0 _ pv ps pm dd)) rfl ?_; clear hS
                rintro _ B_ ⟨rfl, hB_⟩
                obtain rfl := hB_.symm
                refine ⟨(sc_own sc_end), fun hS => ?_⟩
                refine d_all (is := [4, 8]) (by kernel_rfl) rfl ⟨?_, ?_, trivial⟩
                · skip
                  refine dx_one rfl rfl (d_call1 Try.call12 rfl (gmGet_spec W0 _ pm pg hP _)) rfl ?_; clear hS
                  rintro _ B_ ⟨rfl, hB_⟩
                  obtain rfl := hB_.symm
                  refine ⟨(sc_own sc_end), fun hS => ?_⟩
                  refine d_take 5 rfl rfl (by kernel_rfl) (by kernel_rfl) (by kernel_rfl) rfl hS (v_move rfl) ?_
                  refine d_take 6 rfl rfl (by kernel_rfl) (by kernel_rfl) (by kernel_rfl) rfl hS (v_extract rfl rfl) ?_
                  refine d_take 7 rfl rfl (by kernel_rfl) (by kernel_rfl) (by kernel_rfl) rfl hS (v_extract rfl rfl) ?_
                  refine d_one 8 (by kernel_rfl) rfl rfl (d_allocA Try.zeroValue37) rfl ?_; clear hS
                  rintro _ _ ⟨b3, rfl, rfl⟩
                  refine ⟨(sc_own sc_end), fun hS => ?_⟩
                  refine d_one 9 (by kernel_rfl) rfl rfl (d_storeAll Try.sizeOf37 rfl rfl rfl rfl rfl) rfl ?_; clear hS
                  rintro _ _ rfl
                  refine ⟨(sc_own sc_end), fun hS => ?_⟩
                  refine d_take 10 rfl rfl (by kernel_rfl) (by kernel_rfl) (by kernel_rfl) rfl hS (v_assign rfl) ?_
                  refine d_done (by kernel_rfl) ?_; clear hS
                  refine n_then ?_
                  refine x_seq ?_
                  refine x_region ?_
                  refine s_val rfl (v_move rfl) ?_
                  refine s_val rfl (v_move rfl) ?_
                  refine s_and rfl rfl rfl ?_ ?_
                  · intro g11_2
                    refine s_val rfl (v_fieldAddr rfl Try.underlying37 rfl Try.sizeOf3 rfl (by first | exact Nat.zero_add _ | rfl)) ?_
                    refine s_yes rfl rfl ?_
                    refine s_val rfl (v_load Try.isAgg3 rfl (cell_own rfl)) ?_
                    refine s_yes rfl rfl ?_
                    refine s_val rfl (v_fieldAddr rfl Try.underlying30 rfl Try.sizeOf3 rfl (by first | exact Nat.zero_add _ | rfl)) ?_
                    refine s_yes rfl rfl ?_
                    refine s_val rfl (v_load Try.isAgg3 rfl (cell_own rfl)) ?_
                    refine s_yes rfl rfl ?_
                    refine s_val rfl (v_eql rfl rfl) ?_
                    refine s_val rfl (v_pick_t rfl rfl) ?_
                    refine s_val rfl (v_move rfl) ?_
                    refine s_and rfl rfl rfl ?_ ?_
                    · intro g11_9
                      refine s_val rfl (v_fieldAddr rfl Try.underlying30 rfl Try.sizeOf3 rfl (by first | exact Nat.zero_add _ | rfl)) ?_
                      refine s_yes rfl rfl ?_
                      refine s_val rfl (v_load Try.isAgg3 rfl (cell_own rfl)) ?_
                      refine s_yes rfl rfl ?_
                      refine s_val rfl (v_move rfl) ?_
                      refine s_yes rfl rfl ?_
                      refine s_val rfl (v_rem rfl rfl (by decide) (tmodN va 64)) ?_
                      refine s_yes rfl rfl ?_
                      refine s_val rfl (v_conv Try.underlying24 Try.underlying3 rfl (w64 (by omega))) ?_
                      refine s_yes rfl rfl ?_
                      refine s_val rfl (v_eql rfl rfl) ?_
                      refine s_val rfl (v_pick_t rfl rfl) ?_
                      refine s_val rfl (v_move rfl) ?_
                      refine s_and rfl rfl rfl ?_ ?_
                      · intro g11_17
                        refine s_val rfl (v_move rfl) ?_
                        refine s_yes rfl rfl ?_
                        refine s_val rfl (v_neq rfl rfl) ?_
                        refine s_yes rfl rfl ?_
                        refine s_val rfl (v_move rfl) ?_
                        refine s_or rfl rfl rfl ?_ ?_
                        · intro g11_20
                          refine s_no rfl rfl rfl rfl ?_
                          refine s_no rfl rfl rfl rfl ?_
                          refine s_yes rfl rfl ?_
                          refine s_val rfl (v_pick_t rfl rfl) ?_
                          refine s_val rfl (v_pick_t rfl rfl) ?_
                          refine s_val rfl (v_move rfl) ?_
                          refine s_yes rfl rfl ?_
                          refine s_do rfl (d_call Try.call10 rfl (awake17_spec W0 _)) ?_
                          rintro _ B_ ⟨rfl, hB_⟩
                          obtain rfl := hB_.symm
                          refine s_val rfl (v_pick_t rfl rfl) ?_
                          refine s_val rfl (v_assign rfl) ?_
                          refine x_nil ?_
                          refine n_then ?_
                          refine x_ret ?_
                          refine x_done (.inl rfl) (.cons (r_tmp rfl) .nil) ?_
                          exact ⟨_, ⟨rfl, rfl⟩, inferInstance⟩
                        · intro g11_20
                          refine s_val rfl (v_fieldAddr rfl Try.underlying30 rfl Try.sizeOf3 rfl (by first | exact Nat.zero_add _ | rfl)) ?_
                          refine s_yes rfl rfl ?_
                          refine s_val rfl (v_load Try.isAgg3 rfl (cell_own rfl)) ?_
                          refine s_yes rfl rfl ?_
                          refine s_val rfl (v_lss rfl rfl) ?_
                          refine s_yes rfl rfl ?_
                          refine s_val rfl (v_pick_f rfl rfl) ?_
                          refine s_val rfl (v_pick_t rfl rfl) ?_
                          refine s_val rfl (v_move rfl) ?_
                          refine s_and rfl rfl rfl ?_ ?_
                          · intro g11_26
                            refine s_do rfl (d_call Try.call10 rfl (awake17_spec W0 _)) ?_
                            rintro _ B_ ⟨rfl, hB_⟩
                            obtain rfl := hB_.symm
                            refine s_val rfl (v_pick_t rfl rfl) ?_
                            refine s_val rfl (v_assign rfl) ?_
                            refine x_nil ?_
                            refine n_then ?_
                            refine x_ret ?_
                            refine x_done (.inl rfl) (.cons (r_tmp rfl) .nil) ?_
                            exact ⟨_, ⟨rfl, rfl⟩, inferInstance⟩
                          · intro g11_26
                            first | exact absurd rfl g11_26 | exact t4.elim (fun q => absurd q g11_20) (fun q => absurd q g11_26)
                      · intro g11_17
                        exact absurd t3 g11_17
                    · intro g11_9
                      exact absurd t2 g11_9
                  · intro g11_2
                    exact absurd t1 g11_2
                · skip
                  refine dx_one rfl rfl (d_allocA Try.zeroValue37) rfl ?_; clear hS
                  rintro _ _ ⟨b3, rfl, rfl⟩
                  refine ⟨(sc_own sc_end), fun hS => ?_⟩
                  refine d_one 4 (by kernel_rfl) rfl rfl (d_call1 Try.call12 rfl (gmGet_spec W0 _ pm pg hP _)) rfl ?_; clear hS
                  rintro _ B_ ⟨rfl, hB_⟩
                  obtain rfl := hB_.symm
                  refine ⟨(sc_own sc_end), fun hS => ?_⟩
                  refine d_take 5 rfl rfl (by kernel_rfl) (by kernel_rfl) (by kernel_rfl) rfl hS (v_move rfl) ?_
                  refine d_take 6 rfl rfl (by kernel_rfl) (by kernel_rfl) (by kernel_rfl) rfl hS (v_extract rfl rfl) ?_
                  refine d_take 7 rfl rfl (by kernel_rfl) (by kernel_rfl) (by kernel_rfl) rfl hS (v_extract rfl rfl) ?_
                  refine d_one 9 (by kernel_rfl) rfl rfl (d_storeAll Try.sizeOf37 rfl rfl rfl rfl rfl) rfl ?_; clear hS
                  rintro _ _ rfl
                  refine ⟨(sc_own sc_end), fun hS => ?_⟩
                  refine d_take 10 rfl rfl (by kernel_rfl) (by kernel_rfl) (by kernel_rfl) rfl hS (v_assign rfl) ?_
                  refine d_done (by kernel_rfl) ?_; clear hS
                  refine n_then ?_
                  refine x_seq ?_
                  refine x_region ?_
                  refine s_val rfl (v_move rfl) ?_
                  refine s_val rfl (v_move rfl) ?_
                  refine s_and rfl rfl rfl ?_ ?_
                  · intro g11_2
                    refine s_val rfl (v_fieldAddr rfl Try.underlying37 rfl Try.sizeOf3 rfl (by first | exact Nat.zero_add _ | rfl)) ?_
                    refine s_yes rfl rfl ?_
                    refine s_val rfl (v_load Try.isAgg3 rfl (cell_own rfl)) ?_
                    refine s_yes rfl rfl ?_
                    refine s_val rfl (v_fieldAddr rfl Try.underlying30 rfl Try.sizeOf3 rfl (by first | exact Nat.zero_add _ | rfl)) ?_
                    refine s_yes rfl rfl ?_
                    refine s_val rfl (v_load Try.isAgg3 rfl (cell_own rfl)) ?_
                    refine s_yes rfl rfl ?_
                    refine s_val rfl (v_eql rfl rfl) ?_
                    refine s_val rfl (v_pick_t rfl rfl) ?_
                    refine s_val rfl (v_move rfl) ?_
                    refine s_and rfl rfl rfl ?_ ?_
                    · intro g11_9
                      refine s_val rfl (v_fieldAddr rfl Try.underlying30 rfl Try.sizeOf3 rfl (by first | exact Nat.zero_add _ | rfl)) ?_
                      refine s_yes rfl rfl ?_
                      refine s_val rfl (v_load Try.isAgg3 rfl (cell_own rfl)) ?_
                      refine s_yes rfl rfl ?_
                      refine s_val rfl (v_move rfl) ?_
                      refine s_yes rfl rfl ?_
                      refine s_val rfl (v_rem rfl rfl (by decide) (tmodN va 64)) ?_
                      refine s_yes rfl rfl ?_
                      refine s_val rfl (v_conv Try.underlying24 Try.underlying3 rfl (w64 (by omega))) ?_
                      refine s_yes rfl rfl ?_
                      refine s_val rfl (v_eql rfl rfl) ?_
                      refine s_val rfl (v_pick_t rfl rfl) ?_
                      refine s_val rfl (v_move rfl) ?_
                      refine s_and rfl rfl rfl ?_ ?_
                      · intro g11_17
                        refine s_val rfl (v_move rfl) ?_
                        refine s_yes rfl rfl ?_
                        refine s_val rfl (v_neq rfl rfl) ?_
                        refine s_yes rfl rfl ?_
                        refine s_val rfl (v_move rfl) ?_
                        refine s_or rfl rfl rfl ?_ ?_
                        · intro g11_20
                          refine s_no rfl rfl rfl rfl ?_
                          refine s_no rfl rfl rfl rfl ?_
                          refine s_yes rfl rfl ?_
                          refine s_val rfl (v_pick_t rfl rfl) ?_
                          refine s_val rfl (v_pick_t rfl rfl) ?_
                          refine s_val rfl (v_move rfl) ?_
                          refine s_yes rfl rfl ?_
                          refine s_do rfl (d_call Try.call10 rfl (awake17_spec W0 _)) ?_
                          rintro _ B_ ⟨rfl, hB_⟩
                          obtain rfl := hB_.symm
                          refine s_val rfl (v_pick_t rfl rfl) ?_
                          refine s_val rfl (v_assign rfl) ?_
                          refine x_nil ?_
                          refine n_then ?_
                          refine x_ret ?_
                          refine x_done (.inl rfl) (.cons (r_tmp rfl) .nil) ?_
                          exact ⟨_, ⟨rfl, rfl⟩, inferInstance⟩
                        · intro g11_20
                          refine s_val rfl (v_fieldAddr rfl Try.underlying30 rfl Try.sizeOf3 rfl (by first | exact Nat.zero_add _ | rfl)) ?_
                          refine s_yes rfl rfl ?_
                          refine s_val rfl (v_load Try.isAgg3 rfl (cell_own rfl)) ?_
                          refine s_yes rfl rfl ?_
                          refine s_val rfl (v_lss rfl rfl) ?_
                          refine s_yes rfl rfl ?_
                          refine s_val rfl (v_pick_f rfl rfl) ?_
                          refine s_val rfl (v_pick_t rfl rfl) ?_
                          refine s_val rfl (v_move rfl) ?_
                          refine s_and rfl rfl rfl ?_ ?_
                          · intro g11_26
                            refine s_do rfl (d_call Try.call10 rfl (awake17_spec W0 _)) ?_
                            rintro _ B_ ⟨rfl, hB_⟩
                            obtain rfl := hB_.symm
                            refine s_val rfl (v_pick_t rfl rfl) ?_
                            refine s_val rfl (v_assign rfl) ?_
                            refine x_nil ?_
                            refine n_then ?_
                            refine x_ret ?_
                            refine x_done (.inl rfl) (.cons (r_tmp rfl) .nil) ?_
                            exact ⟨_, ⟨rfl, rfl⟩, inferInstance⟩
                          · intro g11_26
                            first | exact absurd rfl g11_26 | exact t4.elim (fun q => absurd q g11_20) (fun q => absurd q g11_26)
                      · intro g11_17
                        exact absurd t3 g11_17
                    · intro g11_9
                      exact absurd t2 g11_9
                  · intro g11_2
                    exact absurd t1 g11_2
              · skip
                refine dx_one rfl rfl (d_allocA Try.zeroValue37) rfl ?_; clear hS
                rintro _ _ ⟨b3, rfl, rfl⟩
                refine ⟨(sc_own sc_end), fun hS => ?_⟩
                refine d_one 1 (by kernel_rfl) rfl rfl (d_call1 Try.call11 rfl (viMap_spec W0 _ pv ps pm dd)) rfl ?_; clear hS
                rintro _ B_ ⟨rfl, hB_⟩
                obtain rfl := hB_.symm
                refine ⟨(sc_own sc_end), fun hS => ?_⟩
                refine d_one 4 (by kernel_rfl) rfl rfl (d_call1 Try.call12 rfl (gmGet_spec W0 _ pm pg hP _)) rfl ?_; clear hS
                rintro _ B_ ⟨rfl, hB_⟩
                obtain rfl := hB_.symm
                refine ⟨(sc_own sc_end), fun hS => ?_⟩
                refine d_take 5 rfl rfl (by kernel_rfl) (by kernel_rfl) (by kernel_rfl) rfl hS (v_move rfl) ?_
                refine d_take 6 rfl rfl (by kernel_rfl) (by kernel_rfl) (by kernel_rfl) rfl hS (v_extract rfl rfl) ?_
                refine d_take 7 rfl rfl (by kernel_rfl) (by kernel_rfl) (by kernel_rfl) rfl hS (v_extract rfl rfl) ?_
                refine d_one 9 (by kernel_rfl) rfl rfl (d_storeAll Try.sizeOf37 rfl rfl rfl rfl rfl) rfl ?_; clear hS
                rintro _ _ rfl
                refine ⟨(sc_own sc_end), fun hS => ?_⟩
                refine d_take 10 rfl rfl (by kernel_rfl) (by kernel_rfl) (by kernel_rfl) rfl hS (v_assign rfl) ?_
                refine d_done (by kernel_rfl) ?_; clear hS
                refine n_then ?_
                refine x_seq ?_
                refine x_region ?_
                refine s_val rfl (v_move rfl) ?_
                refine s_val rfl (v_move rfl) ?_
                refine s_and rfl rfl rfl ?_ ?_
                · intro g11_2
                  refine s_val rfl (v_fieldAddr rfl Try.underlying37 rfl Try.sizeOf3 rfl (by first | exact Nat.zero_add _ | rfl)) ?_
                  refine s_yes rfl rfl ?_
                  refine s_val rfl (v_load Try.isAgg3 rfl (cell_own rfl)) ?_
                  refine s_yes rfl rfl ?_
                  refine s_val rfl (v_fieldAddr rfl Try.underlying30 rfl Try.sizeOf3 rfl (by first | exact Nat.zero_add _ | rfl)) ?_
                  refine s_yes rfl rfl ?_
                  refine s_val rfl (v_load Try.isAgg3 rfl (cell_own rfl)) ?_
                  refine s_yes rfl rfl ?_
                  refine s_val rfl (v_eql rfl rfl) ?_
                  refine s_val rfl (v_pick_t rfl rfl) ?_
                  refine s_val rfl (v_move rfl) ?_
                  refine s_and rfl rfl rfl ?_ ?_
                  · intro g11_9
                    refine s_val rfl (v_fieldAddr rfl Try.underlying30 rfl Try.sizeOf3 rfl (by first | exact Nat.zero_add _ | rfl)) ?_
                    refine s_yes rfl rfl ?_
                    refine s_val rfl (v_load Try.isAgg3 rfl (cell_own rfl)) ?_
                    refine s_yes rfl rfl ?_
                    refine s_val rfl (v_move rfl) ?_
                    refine s_yes rfl rfl ?_
                    refine s_val rfl (v_rem rfl rfl (by decide) (tmodN va 64)) ?_
                    refine s_yes rfl rfl ?_
                    refine s_val rfl (v_conv Try.underlying24 Try.underlying3 rfl (w64 (by omega))) ?_
                    refine s_yes rfl rfl ?_
                    refine s_val rfl (v_eql rfl rfl) ?_
                    refine s_val rfl (v_pick_t rfl rfl) ?_
                    refine s_val rfl (v_move rfl) ?_
                    refine s_and rfl rfl rfl ?_ ?_
                    · intro g11_17
                      refine s_val rfl (v_move rfl) ?_
                      refine s_yes rfl rfl ?_
                      refine s_val rfl (v_neq rfl rfl) ?_
                      refine s_yes rfl rfl ?_
                      refine s_val rfl (v_move rfl) ?_
                      refine s_or rfl rfl rfl ?_ ?_
                      · intro g11_20
                        refine s_no rfl rfl rfl rfl ?_
                        refine s_no rfl rfl rfl rfl ?_
                        refine s_yes rfl rfl ?_
                        refine s_val rfl (v_pick_t rfl rfl) ?_
                        refine s_val rfl (v_pick_t rfl rfl) ?_
                        refine s_val rfl (v_move rfl) ?_
                        refine s_yes rfl rfl ?_
                        refine s_do rfl (d_call Try.call10 rfl (awake17_spec W0 _)) ?_
                        rintro _ B_ ⟨rfl, hB_⟩
                        obtain rfl := hB_.symm
                        refine s_val rfl (v_pick_t rfl rfl) ?_
                        refine s_val rfl (v_assign rfl) ?_
                        refine x_nil ?_
                        refine n_then ?_
                        refine x_ret ?_
                        refine x_done (.inl rfl) (.cons (r_tmp rfl) .nil) ?_
                        exact ⟨_, ⟨rfl, rfl⟩, inferInstance⟩
                      · intro g11_20
                        refine s_val rfl (v_fieldAddr rfl Try.underlying30 rfl Try.sizeOf3 rfl (by first | exact Nat.zero_add _ | rfl)) ?_
                        refine s_yes rfl rfl ?_
                        refine s_val rfl (v_load Try.isAgg3 rfl (cell_own rfl)) ?_
                        refine s_yes rfl rfl ?_
                        refine s_val rfl (v_lss rfl rfl) ?_
                        refine s_yes rfl rfl ?_
                        refine s_val rfl (v_pick_f rfl rfl) ?_
                        refine s_val rfl (v_pick_t rfl rfl) ?_
                        refine s_val rfl (v_move rfl) ?_
                        refine s_and rfl rfl rfl ?_ ?_
                        · intro g11_26
                          refine s_do rfl (d_call Try.call10 rfl (awake17_spec W0 _)) ?_
                          rintro _ B_ ⟨rfl, hB_⟩
                          obtain rfl := hB_.symm
                          refine s_val rfl (v_pick_t rfl rfl) ?_
                          refine s_val rfl (v_assign rfl) ?_
                          refine x_nil ?_
                          refine n_then ?_
                          refine x_ret ?_
                          refine x_done (.inl rfl) (.cons (r_tmp rfl) .nil) ?_
                          exact ⟨_, ⟨rfl, rfl⟩, inferInstance⟩
                        · intro g11_26
                          first | exact absurd rfl g11_26 | exact t4.elim (fun q => absurd q g11_20) (fun q => absurd q g11_26)
                    · intro g11_17
                      exact absurd t3 g11_17
                  · intro g11_9
                    exact absurd t2 g11_9
                · intro g11_2
                  exact absurd t1 g11_2
        · intro g6_15
          exact absurd h1 g6_15

set_option maxRecDepth 100000 in
theorem WalkLess_lifted (os : Os) (started : os.Started) (H : Type) (enc : TypeId × Value → H) :
    ReturnsInHanded {} Try.checked os 3 .any (Rows.walkLessSpec.pre6 enc Try.prog Try.f3 Rows.walkLessRow.domain false) (Rows.walkLessSpec.post enc Try.prog Try.f3 false true false false) := by
  refine returnsInHanded_of_change (C := Try.checked) own started (by kernel_rfl) Try.func3
    (ChangeSpec.witness6 (enc := enc) (C := Try.checked) false ⟨#[], #[.int .u16 0, .slice none 0 0, .int .i64 0, .int .u32 0, .int .i64 0], []⟩ 8 (by kernel_rfl) (by kernel_rfl) (by kernel_rfl) (by kernel_rfl)) ?_
  intro W base args ds gs before hval0 hW hcnd _
  have hval : ∀ (j : Nat) t v, Try.f3.params[j]? = some t → args[j]? = some v → Value.okWide Try.prog W .any base t v := hval0
  have hW' := hW
  obtain ⟨p, q, hA, hV, rfl, hfz, hnd⟩ := hW
  obtain ⟨rfl, rfl⟩ := trodVars_none hV
  have hT0 := ty_all Try.f3.params.toList args.toList ds p (fun j t v ht hv => hval j t v (by simpa using ht) (by simpa using hv)) hA
  obtain ⟨vs, rfl⟩ : ∃ vs : List Value, args = vs.toArray := ⟨args.toList, by simp⟩
  rw [Try.params3] at hT0
  obtain ⟨k1, k2, hT⟩ := hT0
  replace k1 : 5 = vs.length := by simpa using k1
  replace k2 : 5 = ds.length := by simpa using k2
  obtain ⟨v0, vs0, rfl, k1_0⟩ := list_cons k1
  obtain ⟨v1, vs1, rfl, k1_1⟩ := list_cons k1_0
  obtain ⟨v2, vs2, rfl, k1_2⟩ := list_cons k1_1
  obtain ⟨v3, vs3, rfl, k1_3⟩ := list_cons k1_2
  obtain ⟨v4, vs4, rfl, k1_4⟩ := list_cons k1_3
  obtain rfl := list_nil k1_4
  obtain ⟨d0, ds0, rfl, k2_0⟩ := list_cons k2
  obtain ⟨d1, ds1, rfl, k2_1⟩ := list_cons k2_0
  obtain ⟨d2, ds2, rfl, k2_2⟩ := list_cons k2_1
  obtain ⟨d3, ds3, rfl, k2_3⟩ := list_cons k2_2
  obtain ⟨d4, ds4, rfl, k2_4⟩ := list_cons k2_3
  obtain rfl := list_nil k2_4
  have T0 : Ty Try.prog W 22 v0 := hT 0 22 v0 rfl rfl
  have T1 : Ty Try.prog W 23 v1 := hT 1 23 v1 rfl rfl
  have T2 : Ty Try.prog W 3 v2 := hT 2 3 v2 rfl rfl
  have T3 : Ty Try.prog W 24 v3 := hT 3 24 v3 rfl rfl
  have T4 : Ty Try.prog W 3 v4 := hT 4 3 v4 rfl rfl
  clear hT hval0
  have walk : Spec Try.prog W 3 [v0, v1, v2, v3, v4] [] (fun v _ => v = .bool true) := by
    clear hval hW' hV hA hfz hnd hcnd
    obtain ⟨gone, rfl, hg⟩ := ty_u16 T0
    obtain ⟨al, cl, ts, rfl, hl, hts, htok⟩ := ty_puts17 T1
    obtain ⟨root, rfl, hr⟩ := ty_i64 T2
    obtain ⟨va, rfl, hva⟩ := ty_u32 T3
    obtain ⟨kind, rfl, hk⟩ := ty_i64 T4
    exact fun w' hO => (WalkLess_walk W gone hg al cl ts root va hva kind hts htok hl w' hO).mono fun e w'' ⟨v, B, h1, h2, h3⟩ => ⟨v, B, h1, h2.1, h3⟩
  refine (walk W (Own.refl W)).mono fun e W' h => ?_
  obtain ⟨v, B, rfl, rfl, hO⟩ := h
  have bel := hO.below
  exact ⟨_, rfl, _, _, _, [], _, [], hW', trodAll_mk1 (shut_bool Try.underlying4 _), below_trodAll laidOut bel _ _ _ _ (by kernel_rfl) hA, rfl, bel.frame _, fun h => by cases h⟩

theorem WalkLess_over : Rows.walkLessRow.holds Try.pinned (OpenSpec.ofChange Rows.walkLessSpec) :=
  OpenClaim.holds_of_wide 3 Try.f3 rfl rfl rfl rfl rfl rfl rfl ⟨rfl, rfl, rfl, rfl, rfl⟩ rfl rfl rfl rfl rfl (by kernel_rfl) Try.func3 (by kernel_rfl)
    (of_decide_eq_true (by kernel_rfl)) (by unfold Func.isWrapper; first | (rw [if_pos (by decide +kernel)]; kernel_rfl) | (rw [if_neg (by decide +kernel)]; exact ⟨rfl, rfl⟩))
    (fun os started H enc _ => WalkLess_lifted os started H enc)

/-- The statement. -/
theorem WalkLess_holds : Rows.WalkLessSaid := WalkLess_over
end Go.Proofs.Ytalpgipkkdlpgaa
