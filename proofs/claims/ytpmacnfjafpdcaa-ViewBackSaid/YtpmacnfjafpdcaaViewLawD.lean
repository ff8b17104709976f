/-
  Layer 16 (view): the walk of ViewBack.
-/
import Derived.Test.YtpmacnfjafpdcaaViewLawC
import Derived.Test.YtpmacnfjafpdcaaMemLaw
namespace Go.Proofs.Ytpmacnfjafpdcaa
open Go.RowKit
set_option linter.unusedSimpArgs false
set_option linter.unusedVariables false
set_option maxRecDepth 20000

theorem ViewBack_walk (W0 : World) (n : Nat) (hn : n < 256) (a a' ab : Option Addr) (c c' cb : Nat) (pages : List Int) (pls : List Pl) (bs : List Nat) (h1 : SlB W0 a 1 inI pages) (h2 : SlB W0 a' 2 plV pls) (h3 : SlB W0 ab 1 (fun x => [bV x]) bs) (hl1 : pages.length < 9223372036854775808) (hl2 : pls.length < 9223372036854775808) (hl3 : bs.length < 9223372036854775808) (hb : By bs)
    (pa x : Nat) (hpa : pa < 4294967296) (hx : x < 4294967296) :
    Spec Try.prog W0 12 [.int .u8 n, .slice a pages.length c, .slice a' pls.length c', .int .u32 pa, .int .u32 x, .slice ab bs.length cb] [] (fun v B => v = .bool true ∧ B = []) := by
  cases ho : ownB (1 + n % 32) (pgK pages pls (mdN pages pls)) pa bs.length
  · skip
    refine spec_body Try.func12 Try.ntmps12 rfl rfl ?_
    refine x_seq ?_
    refine x_region ?_
    refine s_val rfl (v_assign rfl) ?_
    refine x_nil ?_
    refine n_then ?_
    refine x_seq ?_
    refine x_region ?_
    refine s_val rfl (v_move rfl) ?_
    refine s_val rfl (v_move rfl) ?_
    refine s_val rfl (v_move rfl) ?_
    refine s_do rfl (d_call Try.call32 rfl (made16_spec W0 _ n hn _ _ _ _ pages pls (sla_base h1) (sla_base h2) hl1 hl2)) ?_
    rintro _ B_ ⟨pv, ps, pm, qv, qs, qm, rfl, hB_⟩
    obtain rfl := hB_.symm
    rw [mdH]
    have hP := pgK_ok pages pls (mdN pages pls)
    have hF := Frs.new (1 + n % 32)
    have hlen : (List.replicate (1 + n % 32) zeros).length = 1 + n % 32 := by simp
    generalize pgK pages pls (mdN pages pls) = pg at hP ho
    generalize List.replicate (1 + n % 32) zeros = fr at hF hlen
    rw [← hlen] at ho
    clear hlen
    refine s_val rfl (v_move rfl) ?_
    refine s_val rfl (v_extract rfl rfl) ?_
    refine s_val rfl (v_extract rfl rfl) ?_
    refine s_val rfl (v_assign rfl) ?_
    refine s_val rfl (v_assign rfl) ?_
    refine x_nil ?_
    refine n_then ?_
    refine x_seq ?_
    refine x_seq ?_
    refine x_region ?_
    refine s_val rfl (v_move rfl) ?_
    refine s_val rfl (v_eql_ptr_nil Try.underlying58 rfl rfl) ?_
    refine x_nil ?_
    refine n_then ?_
    refine x_if rfl ?_ ?_
    · intro c2
      cases c2
    · intro c2
      refine x_skip ?_
      refine n_then ?_
      refine x_seq ?_
      refine x_region ?_
      refine s_val rfl (v_move rfl) ?_
      refine s_val rfl (v_move rfl) ?_
      refine s_do rfl (d_call3 Try.call35 rfl (viFind_spec W0 _ pv ps pm 0 fr pg hP pa hpa 4 2)) ?_
      rintro _ B_ ⟨rfl, hB_⟩
      obtain rfl := hB_.symm
      rw [fndV_eq]
      refine s_val rfl (v_move rfl) ?_
      refine s_val rfl (v_extract rfl rfl) ?_
      refine s_val rfl (v_extract rfl rfl) ?_
      refine s_do rfl (d_allocA Try.zeroValue70) ?_
      rintro _ _ ⟨b1, rfl, rfl⟩
      refine s_do0 (d_storeAll Try.sizeOf70 rfl rfl rfl rfl rfl) ?_
      rintro _ _ rfl
      refine s_val rfl (v_assign rfl) ?_
      refine x_nil ?_
      refine n_then ?_
      refine x_seq ?_
      refine x_seq ?_
      refine x_region ?_
      refine s_val rfl (v_move rfl) ?_
      refine s_val rfl (v_move rfl) ?_
      refine s_val rfl (v_move rfl) ?_
      refine s_do rfl (d_call3 Try.call41 rfl (viSave_spec W0 _ pv ps pm 0 fr pg hP hF (by decide) pa hpa 4 x hx)) ?_
      rintro _ B_ ⟨rfl, hB_⟩
      obtain rfl := hB_.symm
      refine s_val rfl (v_move rfl) ?_
      refine s_val rfl (v_neq rfl rfl) ?_
      refine x_nil ?_
      refine n_then ?_
      refine x_if rfl ?_ ?_
      · intro c5
        exact absurd rfl c5
      · intro c5
        refine x_skip ?_
        refine n_then ?_
        refine x_cut (fun Z : List Frm => Frs Z ∧ Z.length = fr.length) (fun Z => [(3, .int .u32 pa), (5, .slice ab bs.length cb), (13, .pointer (some ⟨pv, 0, none⟩))]) (fun Z => pt pv (viO ps pm 0) :: stoH ps Z :: pt pm (gmO pg) :: []) ?_ ?_
        · skip
          refine x_seq ?_
          refine x_region ?_
          refine s_val rfl (v_move rfl) ?_
          refine s_val rfl (v_neq rfl rfl) ?_
          refine x_nil ?_
          refine n_then ?_
          refine x_if rfl ?_ ?_
          · intro c7
            have hD : vsvD fr pg pa 4 0 = 0 := if_neg c7
            refine x_seq ?_
            refine x_region ?_
            refine s_val rfl (v_move rfl) ?_
            refine s_do rfl (d_call1 Try.call43 rfl (viDirty_spec W0 _ pv ps pm _ (vsvD_lt (by decide)))) ?_
            rintro _ B_ ⟨a1, k1, rfl, hB_⟩
            obtain rfl := hB_.symm
            rw [hD, drL_zero]
            refine s_val rfl (v_len_slice Try.underlying56 rfl) ?_
            refine s_val rfl (v_neq rfl rfl) ?_
            refine x_nil ?_
            refine n_then ?_
            refine x_if rfl ?_ ?_
            · intro c8
              exact absurd rfl c8
            · intro c8
              refine x_skip ?_
              refine n_then ?_
              refine mid_intro (vsvF fr pg pa 4 x) ?_ ?_ ?_
              · exact vsvF_ok hF
              · repeat (first | exact sub_nil | refine sub_cons rfl ?_)
              · exact inferInstance
          · intro c7
            have hz : fndE fr.length pg pa 4 2 = 0 := Decidable.not_not.1 c7
            have hD : vsvD fr pg pa 4 0 = 0 ||| 2 ^ (pa / 64) := if_pos hz
            have hp : pa / 64 < 12 := by have := (fnd_ok hz).1; omega
            have hFP : fndP fr.length pg pa 4 2 = ((pa / 64 : Nat) : Int) := if_pos hz
            have hFF : fndF fr.length pg pa 4 2 = (gGot pg ((pa / 64 : Nat) : Int)).1 := if_pos hz
            have hFO : fndO fr.length pg pa 4 2 = ((pa % 64 : Nat) : Int) := if_pos hz
            obtain ⟨hb1, hb2⟩ := back_ld hF hP hx hz
            refine x_seq ?_
            refine x_draw [(b1, 0, _)] 12 mixed rfl (sc_own sc_end) (fun hS => ?_)
            refine d_take 0 rfl rfl (by kernel_rfl) (by kernel_rfl) (by kernel_rfl) rfl hS (v_move rfl) ?_
            refine d_take 2 rfl rfl (by kernel_rfl) (by kernel_rfl) (by kernel_rfl) rfl hS (v_fieldAddr rfl Try.underlying70 rfl Try.sizeOf3 rfl (by first | exact Nat.zero_add _ | rfl)) ?_
            refine d_take 3 rfl rfl (by kernel_rfl) (by kernel_rfl) (by kernel_rfl) rfl hS (v_load Try.isAgg3 rfl (cell_sc0 (k := 0) rfl rfl)) ?_
            refine d_take 4 rfl rfl (by kernel_rfl) (by kernel_rfl) (by kernel_rfl) rfl hS (v_fieldAddr rfl Try.underlying70 rfl Try.sizeOf3 rfl (by first | exact Nat.zero_add _ | rfl)) ?_
            refine d_take 5 rfl rfl (by kernel_rfl) (by kernel_rfl) (by kernel_rfl) rfl hS (v_load Try.isAgg3 rfl (cell_sc0 (k := 0) rfl rfl)) ?_
            refine d_one 1 (by kernel_rfl) rfl rfl (d_call1 Try.call45 rfl (viStore_spec W0 _ pv ps pm _)) rfl ?_; clear hS
            rintro _ B_ ⟨rfl, hB_⟩
            obtain rfl := hB_.symm
            refine ⟨(sc_own sc_end), fun hS => ?_⟩
            refine d_one 6 (by kernel_rfl) rfl rfl (d_call1 Try.call54 rfl (frLoad_spec W0 _ ps _ (fndF fr.length pg pa 4 2) (fndO fr.length pg pa 4 2) 4 (vsvF_ok hF).1)) rfl ?_; clear hS
            rintro _ B_ ⟨rfl, hB_⟩
            obtain rfl := hB_.symm
            rw [hFF, hFO, hb1, hb2]
            refine ⟨(sc_own sc_end), fun hS => ?_⟩
            refine d_take 7 rfl rfl (by kernel_rfl) (by kernel_rfl) (by kernel_rfl) rfl hS (v_move rfl) ?_
            refine d_take 8 rfl rfl (by kernel_rfl) (by kernel_rfl) (by kernel_rfl) rfl hS (v_extract rfl rfl) ?_
            refine d_take 9 rfl rfl (by kernel_rfl) (by kernel_rfl) (by kernel_rfl) rfl hS (v_extract rfl rfl) ?_
            refine d_take 10 rfl rfl (by kernel_rfl) (by kernel_rfl) (by kernel_rfl) rfl hS (v_assign rfl) ?_
            refine d_take 11 rfl rfl (by kernel_rfl) (by kernel_rfl) (by kernel_rfl) rfl hS (v_assign rfl) ?_
            refine d_done (by kernel_rfl) ?_; clear hS
            refine n_then ?_
            refine x_seq ?_
            refine x_region ?_
            refine s_val rfl (v_move rfl) ?_
            refine s_do rfl (d_call1 Try.call43 rfl (viDirty_spec W0 _ pv ps pm _ (vsvD_lt (by decide)))) ?_
            rintro _ B_ ⟨a1, k1, rfl, hB_⟩
            obtain rfl := hB_.symm
            rw [hD, drL_bit hp]
            refine run_form (E := 3) (sz := 1) (a := a1) (c := k1) (n := [pa / 64].length) (fun hf1 => ?_)
            obtain ⟨g1, rfl⟩ : ∃ g, a1 = some ⟨g, 0, none⟩ := by
              rcases hf1 with ⟨_, q⟩ | q
              · cases q
              · exact q
            refine s_val rfl (v_assign rfl) ?_
            refine x_nil ?_
            refine n_then ?_
            refine x_seq ?_
            refine x_seq ?_
            refine x_draw [(b1, 0, _), (g1, 0, inVs [pa / 64])] 26 mixed rfl (sc_own (sc_cons (cells_osl (E := 3) (sz := 1) (a := some ⟨g1, 0, none⟩) (c := k1) (n := [pa / 64].length)) sc_end)) (fun hS => ?_)
            refine d_take 0 rfl rfl (by kernel_rfl) (by kernel_rfl) (by kernel_rfl) rfl hS (v_move rfl) ?_
            refine d_take 1 rfl rfl (by kernel_rfl) (by kernel_rfl) (by kernel_rfl) rfl hS (v_move rfl) ?_
            refine d_take 2 rfl rfl (by kernel_rfl) (by kernel_rfl) (by kernel_rfl) rfl hS (v_neq rfl rfl) ?_
            refine d_take 3 rfl rfl (by kernel_rfl) (by kernel_rfl) (by kernel_rfl) rfl hS (v_move rfl) ?_
            refine x_split (t := 67) rfl ?_ ?_
            · intro g12_4
              exact absurd rfl g12_4
            · intro g12_4
              refine d_take 4 rfl rfl (by kernel_rfl) (by kernel_rfl) (by kernel_rfl) rfl hS (v_move rfl) ?_
              refine d_take 5 rfl rfl (by kernel_rfl) (by kernel_rfl) (by kernel_rfl) rfl hS (v_neq rfl rfl) ?_
              refine d_take 6 rfl rfl (by kernel_rfl) (by kernel_rfl) (by kernel_rfl) rfl hS (v_pick_f rfl rfl) ?_
              refine d_take 7 rfl rfl (by kernel_rfl) (by kernel_rfl) (by kernel_rfl) rfl hS (v_move rfl) ?_
              refine x_split (t := 71) rfl ?_ ?_
              · intro g12_8
                exact absurd rfl g12_8
              · intro g12_8
                refine d_take 8 rfl rfl (by kernel_rfl) (by kernel_rfl) (by kernel_rfl) rfl hS (v_move rfl) ?_
                refine d_take 9 rfl rfl (by kernel_rfl) (by kernel_rfl) (by kernel_rfl) rfl hS (v_len_slice Try.underlying56 rfl) ?_
                refine d_take 10 rfl rfl (by kernel_rfl) (by kernel_rfl) (by kernel_rfl) rfl hS (v_neq rfl rfl) ?_
                refine d_take 11 rfl rfl (by kernel_rfl) (by kernel_rfl) (by kernel_rfl) rfl hS (v_pick_f rfl rfl) ?_
                refine d_take 12 rfl rfl (by kernel_rfl) (by kernel_rfl) (by kernel_rfl) rfl hS (v_move rfl) ?_
                refine x_split (t := 76) rfl ?_ ?_
                · intro g12_13
                  exact absurd rfl g12_13
                · intro g12_13
                  refine d_take 13 rfl rfl (by kernel_rfl) (by kernel_rfl) (by kernel_rfl) rfl hS (v_move rfl) ?_
                  refine d_take 14 rfl rfl (by kernel_rfl) (by kernel_rfl) (by kernel_rfl) rfl hS (v_idx Try.underlying56 Try.sizeOf3 rfl rfl rfl (by simp) (by first | exact Nat.zero_add _ | rfl)) ?_
                  refine d_take 15 rfl rfl (by kernel_rfl) (by kernel_rfl) (by kernel_rfl) rfl hS (v_load Try.isAgg3 rfl (cell_sc1 (k := 1) rfl)) ?_
                  refine d_take 16 rfl rfl (by kernel_rfl) (by kernel_rfl) (by kernel_rfl) rfl hS (v_fieldAddr rfl Try.underlying70 rfl Try.sizeOf3 rfl (by first | exact Nat.zero_add _ | rfl)) ?_
                  refine d_take 17 rfl rfl (by kernel_rfl) (by kernel_rfl) (by kernel_rfl) rfl hS (v_load Try.isAgg3 rfl (by first | exact cell_sc0 (k := 0) rfl rfl | exact cell_sc0 (k := 1) rfl rfl)) ?_
                  refine d_take 18 rfl rfl (by kernel_rfl) (by kernel_rfl) (by kernel_rfl) rfl hS (v_neq rfl rfl) ?_
                  refine d_take 19 rfl rfl (by kernel_rfl) (by kernel_rfl) (by kernel_rfl) rfl hS (v_pick_f rfl rfl) ?_
                  refine d_take 20 rfl rfl (by kernel_rfl) (by kernel_rfl) (by kernel_rfl) rfl hS (v_move rfl) ?_
                  refine x_split (t := 84) rfl ?_ ?_
                  · intro g12_21
                    exact absurd hFP.symm g12_21
                  · intro g12_21
                    refine d_take 21 rfl rfl (by kernel_rfl) (by kernel_rfl) (by kernel_rfl) rfl hS (v_move rfl) ?_
                    refine d_one 22 (by kernel_rfl) rfl rfl (d_call1 Try.call43 rfl (viDirty_spec W0 _ pv ps pm 0 (by decide))) rfl ?_; clear hS
                    rintro _ B_ ⟨a2, k2, rfl, hB_⟩
                    obtain rfl := hB_.symm
                    rw [drL_zero]
                    refine ⟨(sc_own (sc_cons (cells_osl (E := 3) (sz := 1) (a := some ⟨g1, 0, none⟩) (c := k1) (n := [pa / 64].length)) sc_end)), fun hS => ?_⟩
                    refine d_take 23 rfl rfl (by kernel_rfl) (by kernel_rfl) (by kernel_rfl) rfl hS (v_len_slice Try.underlying56 rfl) ?_
                    refine d_take 24 rfl rfl (by kernel_rfl) (by kernel_rfl) (by kernel_rfl) rfl hS (v_neq rfl rfl) ?_
                    refine d_take 25 rfl rfl (by kernel_rfl) (by kernel_rfl) (by kernel_rfl) rfl hS (v_pick_f rfl rfl) ?_
                    refine d_done (by kernel_rfl) ?_; clear hS
                    refine n_then ?_
                    refine x_if rfl ?_ ?_
                    · intro c12
                      exact absurd rfl c12
                    · intro c12
                      refine x_skip ?_
                      refine n_then ?_
                      refine x_seq ?_
                      refine x_region ?_
                      refine s_val rfl (v_move rfl) ?_
                      refine s_val rfl (v_move rfl) ?_
                      refine s_do rfl (d_call3 Try.call36 rfl (viLoad_spec W0 _ pv ps pm 0 _ pg hP (vsvF_ok hF).1 pa hpa 4)) ?_
                      rintro _ B_ ⟨rfl, hB_⟩
                      obtain rfl := hB_.symm
                      refine s_val rfl (v_move rfl) ?_
                      refine s_val rfl (v_extract rfl rfl) ?_
                      refine s_val rfl (v_extract rfl rfl) ?_
                      refine s_val rfl (v_assign rfl) ?_
                      refine s_val rfl (v_assign rfl) ?_
                      refine x_nil ?_
                      refine n_then ?_
                      refine x_seq ?_
                      refine x_draw [(b1, 0, _)] 15 mixed rfl (sc_own sc_end) (fun hS => ?_)
                      refine d_take 0 rfl rfl (by kernel_rfl) (by kernel_rfl) (by kernel_rfl) rfl hS (v_move rfl) ?_
                      refine d_take 2 rfl rfl (by kernel_rfl) (by kernel_rfl) (by kernel_rfl) rfl hS (v_fieldAddr rfl Try.underlying70 rfl Try.sizeOf3 rfl (by first | exact Nat.zero_add _ | rfl)) ?_
                      refine d_take 3 rfl rfl (by kernel_rfl) (by kernel_rfl) (by kernel_rfl) rfl hS (v_load Try.isAgg3 rfl (cell_sc0 (k := 0) rfl rfl)) ?_
                      refine d_one 1 (by kernel_rfl) rfl rfl (d_call1 Try.call44 rfl (viMap_spec W0 _ pv ps pm 0)) rfl ?_; clear hS
                      rintro _ B_ ⟨rfl, hB_⟩
                      obtain rfl := hB_.symm
                      refine ⟨(sc_own sc_end), fun hS => ?_⟩
                      refine d_one 4 (by kernel_rfl) rfl rfl (d_call1 Try.call55 rfl (gmAllows_spec W0 _ pm pg hP (fndP fr.length pg pa 4 2) 1)) rfl ?_; clear hS
                      rintro _ B_ ⟨rfl, hB_⟩
                      obtain rfl := hB_.symm
                      refine ⟨(sc_own sc_end), fun hS => ?_⟩
                      refine d_take 5 rfl rfl (by kernel_rfl) (by kernel_rfl) (by kernel_rfl) rfl hS (v_eql rfl rfl) ?_
                      refine d_take 6 rfl rfl (by kernel_rfl) (by kernel_rfl) (by kernel_rfl) rfl hS (v_move rfl) ?_
                      refine x_split (t := 102) rfl ?_ ?_
                      · intro g15_7
                        rw [hFP] at g15_7
                        obtain ⟨hc1, hc2⟩ := back_vld hF hP hx hz g15_7
                        refine d_take 7 rfl rfl (by kernel_rfl) (by kernel_rfl) (by kernel_rfl) rfl hS (v_move rfl) ?_
                        refine d_take 8 rfl rfl (by kernel_rfl) (by kernel_rfl) (by kernel_rfl) rfl hS (v_move rfl) ?_
                        refine d_take 9 rfl rfl (by kernel_rfl) (by kernel_rfl) (by kernel_rfl) rfl hS (v_neq rfl rfl) ?_
                        refine d_take 10 rfl rfl (by kernel_rfl) (by kernel_rfl) (by kernel_rfl) rfl hS (v_move rfl) ?_
                        refine x_split (t := 106) rfl ?_ ?_
                        · intro g15_11
                          exact absurd (congrArg Int.ofNat hc1) g15_11
                        · intro g15_11
                          refine d_take 11 rfl rfl (by kernel_rfl) (by kernel_rfl) (by kernel_rfl) rfl hS (v_move rfl) ?_
                          refine d_take 12 rfl rfl (by kernel_rfl) (by kernel_rfl) (by kernel_rfl) rfl hS (v_neq rfl rfl) ?_
                          refine d_take 13 rfl rfl (by kernel_rfl) (by kernel_rfl) (by kernel_rfl) rfl hS (v_pick_f rfl rfl) ?_
                          refine d_take 14 rfl rfl (by kernel_rfl) (by kernel_rfl) (by kernel_rfl) rfl hS (v_pick_t rfl rfl) ?_
                          refine d_done (by kernel_rfl) ?_; clear hS
                          refine n_then ?_
                          refine x_if rfl ?_ ?_
                          · intro c15
                            exact absurd hc2 c15
                          · intro c15
                            refine x_skip ?_
                            refine n_then ?_
                            refine mid_intro (vsvF fr pg pa 4 x) ?_ ?_ ?_
                            · exact vsvF_ok hF
                            · repeat (first | exact sub_nil | refine sub_cons rfl ?_)
                            · exact inferInstance
                      · intro g15_7
                        refine d_skip 7 rfl rfl (by kernel_rfl) (by kernel_rfl) (by kernel_rfl) rfl hS ?_
                        refine d_skip 8 rfl rfl (by kernel_rfl) (by kernel_rfl) (by kernel_rfl) rfl hS ?_
                        refine d_skip 9 rfl rfl (by kernel_rfl) (by kernel_rfl) (by kernel_rfl) rfl hS ?_
                        refine d_skip 10 rfl rfl (by kernel_rfl) (by kernel_rfl) (by kernel_rfl) rfl hS ?_
                        refine d_skip 11 rfl rfl (by kernel_rfl) (by kernel_rfl) (by kernel_rfl) rfl hS ?_
                        refine d_skip 12 rfl rfl (by kernel_rfl) (by kernel_rfl) (by kernel_rfl) rfl hS ?_
                        refine d_skip 13 rfl rfl (by kernel_rfl) (by kernel_rfl) (by kernel_rfl) rfl hS ?_
                        refine d_take 14 rfl rfl (by kernel_rfl) (by kernel_rfl) (by kernel_rfl) rfl hS (v_pick_f rfl rfl) ?_
                        refine d_done (by kernel_rfl) ?_; clear hS
                        refine n_then ?_
                        refine x_iff rfl ?_
                        refine x_skip ?_
                        refine n_then ?_
                        refine mid_intro (vsvF fr pg pa 4 x) ?_ ?_ ?_
                        · exact vsvF_ok hF
                        · repeat (first | exact sub_nil | refine sub_cons rfl ?_)
                        · exact inferInstance
        · intro Z ⟨hFZ, hlZ⟩
          rw [← hlZ] at ho
          refine x_seq ?_
          refine x_region ?_
          refine s_val rfl (v_move rfl) ?_
          refine s_val rfl (v_move rfl) ?_
          refine s_val rfl (v_move rfl) ?_
          refine s_do rfl (d_call3 Try.call42 rfl (viWrite_spec W0 _ pv ps pm 0 cb ab Z pg hP hFZ (by decide) pa hpa bs hb (sla_base h3) hl3)) ?_
          rintro _ B_ ⟨rfl, hB_⟩
          obtain rfl := hB_.symm
          rw [ho]
          have hown := ho
          rw [← (wrF_ok (pg := pg) (pa := pa) (bs := bs) hFZ).2] at hown
          refine s_val rfl (v_assign rfl) ?_
          refine x_nil ?_
          refine n_then ?_
          refine x_seq ?_
          refine x_region ?_
          refine s_val rfl (v_move rfl) ?_
          refine s_val rfl (v_move rfl) ?_
          refine s_val rfl (v_move rfl) ?_
          refine s_val rfl (v_len_slice Try.underlying64 rfl) ?_
          refine s_do rfl (d_call3 Try.call37 rfl (viRead_spec W0 _ pv ps pm _ (wrF Z pg pa bs) pg hP (wrF_ok hFZ).1 pa hpa bs.length)) ?_
          rintro _ B_ ⟨a1, k1, rfl, hB_⟩
          obtain rfl := hB_.symm
          rw [hown]
          refine s_val rfl (v_move rfl) ?_
          refine s_val rfl (v_extract rfl rfl) ?_
          refine s_val rfl (v_extract rfl rfl) ?_
          refine s_val rfl (v_assign rfl) ?_
          refine s_val rfl (v_assign rfl) ?_
          refine x_nil ?_
          refine n_then ?_
          refine x_seq ?_
          refine x_seq ?_
          refine x_region ?_
          refine s_val rfl (v_move rfl) ?_
          refine s_val rfl (v_move rfl) ?_
          refine s_val rfl (v_neq_bool Try.underlying4 rfl rfl) ?_
          refine s_val rfl (v_move rfl) ?_
          refine s_or rfl rfl rfl ?_ ?_
          · intro g19_4
            exact absurd rfl g19_4
          · intro g19_4
            refine s_val rfl (v_move rfl) ?_
            refine s_yes rfl rfl ?_
            refine s_val rfl (v_move rfl) ?_
            refine s_yes rfl rfl ?_
            refine s_val rfl (v_move rfl) ?_
            refine s_yes rfl rfl ?_
            refine s_val rfl (v_move rfl) ?_
            refine s_yes rfl rfl ?_
            refine s_val rfl (v_len_slice Try.underlying64 rfl) ?_
            refine s_yes rfl rfl ?_
            refine s_do rfl (d_call3 Try.call33 rfl (viOwn_spec W0 _ pv ps pm _ (wrF Z pg pa bs) pg hP pa hpa bs.length)) ?_
            rintro _ B_ ⟨rfl, hB_⟩
            obtain rfl := hB_.symm
            rw [hown]
            refine s_yes rfl rfl ?_
            refine s_val rfl (v_neq_bool Try.underlying4 rfl rfl) ?_
            refine s_val rfl (v_pick_f rfl rfl) ?_
            refine s_val rfl (v_move rfl) ?_
            refine s_or rfl rfl rfl ?_ ?_
            · intro g19_13
              exact absurd rfl g19_13
            · intro g19_13
              refine s_val rfl (v_move rfl) ?_
              refine s_yes rfl rfl ?_
              refine s_val rfl (v_move rfl) ?_
              refine s_and rfl rfl rfl ?_ ?_
              · intro g19_15
                cases g19_15
              · intro g19_15
                refine s_no rfl rfl rfl rfl ?_
                refine s_no rfl rfl rfl rfl ?_
                refine s_yes rfl rfl ?_
                refine s_val rfl (v_pick_f rfl rfl) ?_
                refine s_yes rfl rfl ?_
                refine s_val rfl (v_move rfl) ?_
                refine s_no rfl rfl rfl rfl ?_
                refine s_no rfl rfl rfl rfl ?_
                refine s_no rfl rfl rfl rfl ?_
                refine s_no rfl rfl rfl rfl ?_
                refine s_no rfl rfl rfl rfl ?_
                refine s_yes rfl rfl ?_
                refine s_val rfl (v_pick_f rfl rfl) ?_
                refine s_val rfl (v_pick_f rfl rfl) ?_
                refine s_val rfl (v_move rfl) ?_
                refine s_yes rfl rfl ?_
                refine s_val rfl (v_move rfl) ?_
                refine s_yes rfl rfl ?_
                refine s_val rfl (v_not rfl) ?_
                refine s_yes rfl rfl ?_
                refine s_val rfl (v_move rfl) ?_
                refine s_and rfl rfl rfl ?_ ?_
                · intro g19_31
                  refine s_val rfl (v_move rfl) ?_
                  refine s_yes rfl rfl ?_
                  refine s_val rfl (v_len_slice Try.underlying64 rfl) ?_
                  refine s_yes rfl rfl ?_
                  refine s_val rfl (v_neq rfl rfl) ?_
                  refine s_yes rfl rfl ?_
                  refine s_val rfl (v_move rfl) ?_
                  skip
                  refine s_or rfl rfl rfl ?_ ?_
                  · intro g19_35
                    exact absurd (by rw [rdO, if_neg (by rw [hown]; decide)]; rfl) g19_35
                  · intro g19_35
                    refine s_val rfl (v_move rfl) ?_
                    refine s_yes rfl rfl ?_
                    refine s_do rfl (d_call1 Try.call43 rfl (viDirty_spec W0 _ pv ps pm _ (wrE_lt (by decide)))) ?_
                    rintro _ B_ ⟨a2, k2, rfl, hB_⟩
                    obtain rfl := hB_.symm
                    rw [show wrE Z pg pa 0 bs.length = 0 from if_neg (by rw [ho]; decide), drL_zero]
                    refine s_yes rfl rfl ?_
                    refine s_val rfl (v_len_slice Try.underlying56 rfl) ?_
                    refine s_yes rfl rfl ?_
                    refine s_val rfl (v_neq rfl rfl) ?_
                    refine s_yes rfl rfl ?_
                    refine s_val rfl (v_pick_f rfl rfl) ?_
                    refine s_yes rfl rfl ?_
                    refine s_val rfl (v_pick_t rfl rfl) ?_
                    refine s_val rfl (v_pick_f rfl rfl) ?_
                    refine x_nil ?_
                    refine n_then ?_
                    refine x_if rfl ?_ ?_
                    · intro c19
                      exact absurd rfl c19
                    · intro c19
                      refine x_skip ?_
                      refine n_then ?_
                      refine x_seq ?_
                      refine x_region ?_
                      refine s_do rfl (d_call Try.call34 rfl (awake16_spec W0 _)) ?_
                      rintro _ B_ ⟨rfl, hB_⟩
                      obtain rfl := hB_.symm
                      refine s_val rfl (v_assign rfl) ?_
                      refine x_nil ?_
                      refine n_then ?_
                      refine x_ret ?_
                      refine x_done (.inl rfl) (.cons (r_tmp rfl) .nil) ?_
                      exact ⟨_, ⟨rfl, rfl⟩, inferInstance⟩
                · intro g19_31
                  exact absurd (by decide) g19_31
  · skip
    refine spec_body Try.func12 Try.ntmps12 rfl rfl ?_
    refine x_seq ?_
    refine x_region ?_
    refine s_val rfl (v_assign rfl) ?_
    refine x_nil ?_
    refine n_then ?_
    refine x_seq ?_
    refine x_region ?_
    refine s_val rfl (v_move rfl) ?_
    refine s_val rfl (v_move rfl) ?_
    refine s_val rfl (v_move rfl) ?_
    refine s_do rfl (d_call Try.call32 rfl (made16_spec W0 _ n hn _ _ _ _ pages pls (sla_base h1) (sla_base h2) hl1 hl2)) ?_
    rintro _ B_ ⟨pv, ps, pm, qv, qs, qm, rfl, hB_⟩
    obtain rfl := hB_.symm
    rw [mdH]
    have hP := pgK_ok pages pls (mdN pages pls)
    have hF := Frs.new (1 + n % 32)
    have hlen : (List.replicate (1 + n % 32) zeros).length = 1 + n % 32 := by simp
    generalize pgK pages pls (mdN pages pls) = pg at hP ho
    generalize List.replicate (1 + n % 32) zeros = fr at hF hlen
    rw [← hlen] at ho
    clear hlen
    refine s_val rfl (v_move rfl) ?_
    refine s_val rfl (v_extract rfl rfl) ?_
    refine s_val rfl (v_extract rfl rfl) ?_
    refine s_val rfl (v_assign rfl) ?_
    refine s_val rfl (v_assign rfl) ?_
    refine x_nil ?_
    refine n_then ?_
    refine x_seq ?_
    refine x_seq ?_
    refine x_region ?_
    refine s_val rfl (v_move rfl) ?_
    refine s_val rfl (v_eql_ptr_nil Try.underlying58 rfl rfl) ?_
    refine x_nil ?_
    refine n_then ?_
    refine x_if rfl ?_ ?_
    · intro c2
      cases c2
    · intro c2
      refine x_skip ?_
      refine n_then ?_
      refine x_seq ?_
      refine x_region ?_
      refine s_val rfl (v_move rfl) ?_
      refine s_val rfl (v_move rfl) ?_
      refine s_do rfl (d_call3 Try.call35 rfl (viFind_spec W0 _ pv ps pm 0 fr pg hP pa hpa 4 2)) ?_
      rintro _ B_ ⟨rfl, hB_⟩
      obtain rfl := hB_.symm
      rw [fndV_eq]
      refine s_val rfl (v_move rfl) ?_
      refine s_val rfl (v_extract rfl rfl) ?_
      refine s_val rfl (v_extract rfl rfl) ?_
      refine s_do rfl (d_allocA Try.zeroValue70) ?_
      rintro _ _ ⟨b1, rfl, rfl⟩
      refine s_do0 (d_storeAll Try.sizeOf70 rfl rfl rfl rfl rfl) ?_
      rintro _ _ rfl
      refine s_val rfl (v_assign rfl) ?_
      refine x_nil ?_
      refine n_then ?_
      refine x_seq ?_
      refine x_seq ?_
      refine x_region ?_
      refine s_val rfl (v_move rfl) ?_
      refine s_val rfl (v_move rfl) ?_
      refine s_val rfl (v_move rfl) ?_
      refine s_do rfl (d_call3 Try.call41 rfl (viSave_spec W0 _ pv ps pm 0 fr pg hP hF (by decide) pa hpa 4 x hx)) ?_
      rintro _ B_ ⟨rfl, hB_⟩
      obtain rfl := hB_.symm
      refine s_val rfl (v_move rfl) ?_
      refine s_val rfl (v_neq rfl rfl) ?_
      refine x_nil ?_
      refine n_then ?_
      refine x_if rfl ?_ ?_
      · intro c5
        exact absurd rfl c5
      · intro c5
        refine x_skip ?_
        refine n_then ?_
        refine x_cut (fun Z : List Frm => Frs Z ∧ Z.length = fr.length) (fun Z => [(3, .int .u32 pa), (5, .slice ab bs.length cb), (13, .pointer (some ⟨pv, 0, none⟩))]) (fun Z => pt pv (viO ps pm 0) :: stoH ps Z :: pt pm (gmO pg) :: []) ?_ ?_
        · skip
          refine x_seq ?_
          refine x_region ?_
          refine s_val rfl (v_move rfl) ?_
          refine s_val rfl (v_neq rfl rfl) ?_
          refine x_nil ?_
          refine n_then ?_
          refine x_if rfl ?_ ?_
          · intro c7
            have hD : vsvD fr pg pa 4 0 = 0 := if_neg c7
            refine x_seq ?_
            refine x_region ?_
            refine s_val rfl (v_move rfl) ?_
            refine s_do rfl (d_call1 Try.call43 rfl (viDirty_spec W0 _ pv ps pm _ (vsvD_lt (by decide)))) ?_
            rintro _ B_ ⟨a1, k1, rfl, hB_⟩
            obtain rfl := hB_.symm
            rw [hD, drL_zero]
            refine s_val rfl (v_len_slice Try.underlying56 rfl) ?_
            refine s_val rfl (v_neq rfl rfl) ?_
            refine x_nil ?_
            refine n_then ?_
            refine x_if rfl ?_ ?_
            · intro c8
              exact absurd rfl c8
            · intro c8
              refine x_skip ?_
              refine n_then ?_
              refine mid_intro (vsvF fr pg pa 4 x) ?_ ?_ ?_
              · exact vsvF_ok hF
              · repeat (first | exact sub_nil | refine sub_cons rfl ?_)
              · exact inferInstance
          · intro c7
            have hz : fndE fr.length pg pa 4 2 = 0 := Decidable.not_not.1 c7
            have hD : vsvD fr pg pa 4 0 = 0 ||| 2 ^ (pa / 64) := if_pos hz
            have hp : pa / 64 < 12 := by have := (fnd_ok hz).1; omega
            have hFP : fndP fr.length pg pa 4 2 = ((pa / 64 : Nat) : Int) := if_pos hz
            have hFF : fndF fr.length pg pa 4 2 = (gGot pg ((pa / 64 : Nat) : Int)).1 := if_pos hz
            have hFO : fndO fr.length pg pa 4 2 = ((pa % 64 : Nat) : Int) := if_pos hz
            obtain ⟨hb1, hb2⟩ := back_ld hF hP hx hz
            refine x_seq ?_
            refine x_draw [(b1, 0, _)] 12 mixed rfl (sc_own sc_end) (fun hS => ?_)
            refine d_take 0 rfl rfl (by kernel_rfl) (by kernel_rfl) (by kernel_rfl) rfl hS (v_move rfl) ?_
            refine d_take 2 rfl rfl (by kernel_rfl) (by kernel_rfl) (by kernel_rfl) rfl hS (v_fieldAddr rfl Try.underlying70 rfl Try.sizeOf3 rfl (by first | exact Nat.zero_add _ | rfl)) ?_
            refine d_take 3 rfl rfl (by kernel_rfl) (by kernel_rfl) (by kernel_rfl) rfl hS (v_load Try.isAgg3 rfl (cell_sc0 (k := 0) rfl rfl)) ?_
            refine d_take 4 rfl rfl (by kernel_rfl) (by kernel_rfl) (by kernel_rfl) rfl hS (v_fieldAddr rfl Try.underlying70 rfl Try.sizeOf3 rfl (by first | exact Nat.zero_add _ | rfl)) ?_
            refine d_take 5 rfl rfl (by kernel_rfl) (by kernel_rfl) (by kernel_rfl) rfl hS (v_load Try.isAgg3 rfl (cell_sc0 (k := 0) rfl rfl)) ?_
            refine d_one 1 (by kernel_rfl) rfl rfl (d_call1 Try.call45 rfl (viStore_spec W0 _ pv ps pm _)) rfl ?_; clear hS
            rintro _ B_ ⟨rfl, hB_⟩
            obtain rfl := hB_.symm
            refine ⟨(sc_own sc_end), fun hS => ?_⟩
            refine d_one 6 (by kernel_rfl) rfl rfl (d_call1 Try.call54 rfl (frLoad_spec W0 _ ps _ (fndF fr.length pg pa 4 2) (fndO fr.length pg pa 4 2) 4 (vsvF_ok hF).1)) rfl ?_; clear hS
            rintro _ B_ ⟨rfl, hB_⟩
            obtain rfl := hB_.symm
            rw [hFF, hFO, hb1, hb2]
            refine ⟨(sc_own sc_end), fun hS => ?_⟩
            refine d_take 7 rfl rfl (by kernel_rfl) (by kernel_rfl) (by kernel_rfl) rfl hS (v_move rfl) ?_
            refine d_take 8 rfl rfl (by kernel_rfl) (by kernel_rfl) (by kernel_rfl) rfl hS (v_extract rfl rfl) ?_
            refine d_take 9 rfl rfl (by kernel_rfl) (by kernel_rfl) (by kernel_rfl) rfl hS (v_extract rfl rfl) ?_
            refine d_take 10 rfl rfl (by kernel_rfl) (by kernel_rfl) (by kernel_rfl) rfl hS (v_assign rfl) ?_
            refine d_take 11 rfl rfl (by kernel_rfl) (by kernel_rfl) (by kernel_rfl) rfl hS (v_assign rfl) ?_
            refine d_done (by kernel_rfl) ?_; clear hS
            refine n_then ?_
            refine x_seq ?_
            refine x_region ?_
            refine s_val rfl (v_move rfl) ?_
            refine s_do rfl (d_call1 Try.call43 rfl (viDirty_spec W0 _ pv ps pm _ (vsvD_lt (by decide)))) ?_
            rintro _ B_ ⟨a1, k1, rfl, hB_⟩
            obtain rfl := hB_.symm
            rw [hD, drL_bit hp]
            refine run_form (E := 3) (sz := 1) (a := a1) (c := k1) (n := [pa / 64].length) (fun hf1 => ?_)
            obtain ⟨g1, rfl⟩ : ∃ g, a1 = some ⟨g, 0, none⟩ := by
              rcases hf1 with ⟨_, q⟩ | q
              · cases q
              · exact q
            refine s_val rfl (v_assign rfl) ?_
            refine x_nil ?_
            refine n_then ?_
            refine x_seq ?_
            refine x_seq ?_
            refine x_draw [(b1, 0, _), (g1, 0, inVs [pa / 64])] 26 mixed rfl (sc_own (sc_cons (cells_osl (E := 3) (sz := 1) (a := some ⟨g1, 0, none⟩) (c := k1) (n := [pa / 64].length)) sc_end)) (fun hS => ?_)
            refine d_take 0 rfl rfl (by kernel_rfl) (by kernel_rfl) (by kernel_rfl) rfl hS (v_move rfl) ?_
            refine d_take 1 rfl rfl (by kernel_rfl) (by kernel_rfl) (by kernel_rfl) rfl hS (v_move rfl) ?_
            refine d_take 2 rfl rfl (by kernel_rfl) (by kernel_rfl) (by kernel_rfl) rfl hS (v_neq rfl rfl) ?_
            refine d_take 3 rfl rfl (by kernel_rfl) (by kernel_rfl) (by kernel_rfl) rfl hS (v_move rfl) ?_
            refine x_split (t := 67) rfl ?_ ?_
            · intro g12_4
              exact absurd rfl g12_4
            · intro g12_4
              refine d_take 4 rfl rfl (by kernel_rfl) (by kernel_rfl) (by kernel_rfl) rfl hS (v_move rfl) ?_
              refine d_take 5 rfl rfl (by kernel_rfl) (by kernel_rfl) (by kernel_rfl) rfl hS (v_neq rfl rfl) ?_
              refine d_take 6 rfl rfl (by kernel_rfl) (by kernel_rfl) (by kernel_rfl) rfl hS (v_pick_f rfl rfl) ?_
              refine d_take 7 rfl rfl (by kernel_rfl) (by kernel_rfl) (by kernel_rfl) rfl hS (v_move rfl) ?_
              refine x_split (t := 71) rfl ?_ ?_
              · intro g12_8
                exact absurd rfl g12_8
              · intro g12_8
                refine d_take 8 rfl rfl (by kernel_rfl) (by kernel_rfl) (by kernel_rfl) rfl hS (v_move rfl) ?_
                refine d_take 9 rfl rfl (by kernel_rfl) (by kernel_rfl) (by kernel_rfl) rfl hS (v_len_slice Try.underlying56 rfl) ?_
                refine d_take 10 rfl rfl (by kernel_rfl) (by kernel_rfl) (by kernel_rfl) rfl hS (v_neq rfl rfl) ?_
                refine d_take 11 rfl rfl (by kernel_rfl) (by kernel_rfl) (by kernel_rfl) rfl hS (v_pick_f rfl rfl) ?_
                refine d_take 12 rfl rfl (by kernel_rfl) (by kernel_rfl) (by kernel_rfl) rfl hS (v_move rfl) ?_
                refine x_split (t := 76) rfl ?_ ?_
                · intro g12_13
                  exact absurd rfl g12_13
                · intro g12_13
                  refine d_take 13 rfl rfl (by kernel_rfl) (by kernel_rfl) (by kernel_rfl) rfl hS (v_move rfl) ?_
                  refine d_take 14 rfl rfl (by kernel_rfl) (by kernel_rfl) (by kernel_rfl) rfl hS (v_idx Try.underlying56 Try.sizeOf3 rfl rfl rfl (by simp) (by first | exact Nat.zero_add _ | rfl)) ?_
                  refine d_take 15 rfl rfl (by kernel_rfl) (by kernel_rfl) (by kernel_rfl) rfl hS (v_load Try.isAgg3 rfl (cell_sc1 (k := 1) rfl)) ?_
                  refine d_take 16 rfl rfl (by kernel_rfl) (by kernel_rfl) (by kernel_rfl) rfl hS (v_fieldAddr rfl Try.underlying70 rfl Try.sizeOf3 rfl (by first | exact Nat.zero_add _ | rfl)) ?_
                  refine d_take 17 rfl rfl (by kernel_rfl) (by kernel_rfl) (by kernel_rfl) rfl hS (v_load Try.isAgg3 rfl (by first | exact cell_sc0 (k := 0) rfl rfl | exact cell_sc0 (k := 1) rfl rfl)) ?_
                  refine d_take 18 rfl rfl (by kernel_rfl) (by kernel_rfl) (by kernel_rfl) rfl hS (v_neq rfl rfl) ?_
                  refine d_take 19 rfl rfl (by kernel_rfl) (by kernel_rfl) (by kernel_rfl) rfl hS (v_pick_f rfl rfl) ?_
                  refine d_take 20 rfl rfl (by kernel_rfl) (by kernel_rfl) (by kernel_rfl) rfl hS (v_move rfl) ?_
                  refine x_split (t := 84) rfl ?_ ?_
                  · intro g12_21
                    exact absurd hFP.symm g12_21
                  · intro g12_21
                    refine d_take 21 rfl rfl (by kernel_rfl) (by kernel_rfl) (by kernel_rfl) rfl hS (v_move rfl) ?_
                    refine d_one 22 (by kernel_rfl) rfl rfl (d_call1 Try.call43 rfl (viDirty_spec W0 _ pv ps pm 0 (by decide))) rfl ?_; clear hS
                    rintro _ B_ ⟨a2, k2, rfl, hB_⟩
                    obtain rfl := hB_.symm
                    rw [drL_zero]
                    refine ⟨(sc_own (sc_cons (cells_osl (E := 3) (sz := 1) (a := some ⟨g1, 0, none⟩) (c := k1) (n := [pa / 64].length)) sc_end)), fun hS => ?_⟩
                    refine d_take 23 rfl rfl (by kernel_rfl) (by kernel_rfl) (by kernel_rfl) rfl hS (v_len_slice Try.underlying56 rfl) ?_
                    refine d_take 24 rfl rfl (by kernel_rfl) (by kernel_rfl) (by kernel_rfl) rfl hS (v_neq rfl rfl) ?_
                    refine d_take 25 rfl rfl (by kernel_rfl) (by kernel_rfl) (by kernel_rfl) rfl hS (v_pick_f rfl rfl) ?_
                    refine d_done (by kernel_rfl) ?_; clear hS
                    refine n_then ?_
                    refine x_if rfl ?_ ?_
                    · intro c12
                      exact absurd rfl c12
                    · intro c12
                      refine x_skip ?_
                      refine n_then ?_
                      refine x_seq ?_
                      refine x_region ?_
                      refine s_val rfl (v_move rfl) ?_
                      refine s_val rfl (v_move rfl) ?_
                      refine s_do rfl (d_call3 Try.call36 rfl (viLoad_spec W0 _ pv ps pm 0 _ pg hP (vsvF_ok hF).1 pa hpa 4)) ?_
                      rintro _ B_ ⟨rfl, hB_⟩
                      obtain rfl := hB_.symm
                      refine s_val rfl (v_move rfl) ?_
                      refine s_val rfl (v_extract rfl rfl) ?_
                      refine s_val rfl (v_extract rfl rfl) ?_
                      refine s_val rfl (v_assign rfl) ?_
                      refine s_val rfl (v_assign rfl) ?_
                      refine x_nil ?_
                      refine n_then ?_
                      refine x_seq ?_
                      refine x_draw [(b1, 0, _)] 15 mixed rfl (sc_own sc_end) (fun hS => ?_)
                      refine d_take 0 rfl rfl (by kernel_rfl) (by kernel_rfl) (by kernel_rfl) rfl hS (v_move rfl) ?_
                      refine d_take 2 rfl rfl (by kernel_rfl) (by kernel_rfl) (by kernel_rfl) rfl hS (v_fieldAddr rfl Try.underlying70 rfl Try.sizeOf3 rfl (by first | exact Nat.zero_add _ | rfl)) ?_
                      refine d_take 3 rfl rfl (by kernel_rfl) (by kernel_rfl) (by kernel_rfl) rfl hS (v_load Try.isAgg3 rfl (cell_sc0 (k := 0) rfl rfl)) ?_
                      refine d_one 1 (by kernel_rfl) rfl rfl (d_call1 Try.call44 rfl (viMap_spec W0 _ pv ps pm 0)) rfl ?_; clear hS
                      rintro _ B_ ⟨rfl, hB_⟩
                      obtain rfl := hB_.symm
                      refine ⟨(sc_own sc_end), fun hS => ?_⟩
                      refine d_one 4 (by kernel_rfl) rfl rfl (d_call1 Try.call55 rfl (gmAllows_spec W0 _ pm pg hP (fndP fr.length pg pa 4 2) 1)) rfl ?_; clear hS
                      rintro _ B_ ⟨rfl, hB_⟩
                      obtain rfl := hB_.symm
                      refine ⟨(sc_own sc_end), fun hS => ?_⟩
                      refine d_take 5 rfl rfl (by kernel_rfl) (by kernel_rfl) (by kernel_rfl) rfl hS (v_eql rfl rfl) ?_
                      refine d_take 6 rfl rfl (by kernel_rfl) (by kernel_rfl) (by kernel_rfl) rfl hS (v_move rfl) ?_
                      refine x_split (t := 102) rfl ?_ ?_
                      · intro g15_7
                        rw [hFP] at g15_7
                        obtain ⟨hc1, hc2⟩ := back_vld hF hP hx hz g15_7
                        refine d_take 7 rfl rfl (by kernel_rfl) (by kernel_rfl) (by kernel_rfl) rfl hS (v_move rfl) ?_
                        refine d_take 8 rfl rfl (by kernel_rfl) (by kernel_rfl) (by kernel_rfl) rfl hS (v_move rfl) ?_
                        refine d_take 9 rfl rfl (by kernel_rfl) (by kernel_rfl) (by kernel_rfl) rfl hS (v_neq rfl rfl) ?_
                        refine d_take 10 rfl rfl (by kernel_rfl) (by kernel_rfl) (by kernel_rfl) rfl hS (v_move rfl) ?_
                        refine x_split (t := 106) rfl ?_ ?_
                        · intro g15_11
                          exact absurd (congrArg Int.ofNat hc1) g15_11
                        · intro g15_11
                          refine d_take 11 rfl rfl (by kernel_rfl) (by kernel_rfl) (by kernel_rfl) rfl hS (v_move rfl) ?_
                          refine d_take 12 rfl rfl (by kernel_rfl) (by kernel_rfl) (by kernel_rfl) rfl hS (v_neq rfl rfl) ?_
                          refine d_take 13 rfl rfl (by kernel_rfl) (by kernel_rfl) (by kernel_rfl) rfl hS (v_pick_f rfl rfl) ?_
                          refine d_take 14 rfl rfl (by kernel_rfl) (by kernel_rfl) (by kernel_rfl) rfl hS (v_pick_t rfl rfl) ?_
                          refine d_done (by kernel_rfl) ?_; clear hS
                          refine n_then ?_
                          refine x_if rfl ?_ ?_
                          · intro c15
                            exact absurd hc2 c15
                          · intro c15
                            refine x_skip ?_
                            refine n_then ?_
                            refine mid_intro (vsvF fr pg pa 4 x) ?_ ?_ ?_
                            · exact vsvF_ok hF
                            · repeat (first | exact sub_nil | refine sub_cons rfl ?_)
                            · exact inferInstance
                      · intro g15_7
                        refine d_skip 7 rfl rfl (by kernel_rfl) (by kernel_rfl) (by kernel_rfl) rfl hS ?_
                        refine d_skip 8 rfl rfl (by kernel_rfl) (by kernel_rfl) (by kernel_rfl) rfl hS ?_
                        refine d_skip 9 rfl rfl (by kernel_rfl) (by kernel_rfl) (by kernel_rfl) rfl hS ?_
                        refine d_skip 10 rfl rfl (by kernel_rfl) (by kernel_rfl) (by kernel_rfl) rfl hS ?_
                        refine d_skip 11 rfl rfl (by kernel_rfl) (by kernel_rfl) (by kernel_rfl) rfl hS ?_
                        refine d_skip 12 rfl rfl (by kernel_rfl) (by kernel_rfl) (by kernel_rfl) rfl hS ?_
                        refine d_skip 13 rfl rfl (by kernel_rfl) (by kernel_rfl) (by kernel_rfl) rfl hS ?_
                        refine d_take 14 rfl rfl (by kernel_rfl) (by kernel_rfl) (by kernel_rfl) rfl hS (v_pick_f rfl rfl) ?_
                        refine d_done (by kernel_rfl) ?_; clear hS
                        refine n_then ?_
                        refine x_iff rfl ?_
                        refine x_skip ?_
                        refine n_then ?_
                        refine mid_intro (vsvF fr pg pa 4 x) ?_ ?_ ?_
                        · exact vsvF_ok hF
                        · repeat (first | exact sub_nil | refine sub_cons rfl ?_)
                        · exact inferInstance
        · intro Z ⟨hFZ, hlZ⟩
          rw [← hlZ] at ho
          refine x_seq ?_
          refine x_region ?_
          refine s_val rfl (v_move rfl) ?_
          refine s_val rfl (v_move rfl) ?_
          refine s_val rfl (v_move rfl) ?_
          refine s_do rfl (d_call3 Try.call42 rfl (viWrite_spec W0 _ pv ps pm 0 cb ab Z pg hP hFZ (by decide) pa hpa bs hb (sla_base h3) hl3)) ?_
          rintro _ B_ ⟨rfl, hB_⟩
          obtain rfl := hB_.symm
          rw [ho]
          have hown := ho
          rw [← (wrF_ok (pg := pg) (pa := pa) (bs := bs) hFZ).2] at hown
          refine s_val rfl (v_assign rfl) ?_
          refine x_nil ?_
          refine n_then ?_
          refine x_seq ?_
          refine x_region ?_
          refine s_val rfl (v_move rfl) ?_
          refine s_val rfl (v_move rfl) ?_
          refine s_val rfl (v_move rfl) ?_
          refine s_val rfl (v_len_slice Try.underlying64 rfl) ?_
          refine s_do rfl (d_call3 Try.call37 rfl (viRead_spec W0 _ pv ps pm _ (wrF Z pg pa bs) pg hP (wrF_ok hFZ).1 pa hpa bs.length)) ?_
          rintro _ B_ ⟨a1, k1, rfl, hB_⟩
          obtain rfl := hB_.symm
          rw [hown]
          refine s_val rfl (v_move rfl) ?_
          refine s_val rfl (v_extract rfl rfl) ?_
          refine s_val rfl (v_extract rfl rfl) ?_
          refine s_val rfl (v_assign rfl) ?_
          refine s_val rfl (v_assign rfl) ?_
          refine x_nil ?_
          refine n_then ?_
          refine x_seq ?_
          refine x_seq ?_
          refine x_region ?_
          refine s_val rfl (v_move rfl) ?_
          refine s_val rfl (v_move rfl) ?_
          refine s_val rfl (v_neq_bool Try.underlying4 rfl rfl) ?_
          refine s_val rfl (v_move rfl) ?_
          refine s_or rfl rfl rfl ?_ ?_
          · intro g19_4
            exact absurd rfl g19_4
          · intro g19_4
            refine s_val rfl (v_move rfl) ?_
            refine s_yes rfl rfl ?_
            refine s_val rfl (v_move rfl) ?_
            refine s_yes rfl rfl ?_
            refine s_val rfl (v_move rfl) ?_
            refine s_yes rfl rfl ?_
            refine s_val rfl (v_move rfl) ?_
            refine s_yes rfl rfl ?_
            refine s_val rfl (v_len_slice Try.underlying64 rfl) ?_
            refine s_yes rfl rfl ?_
            refine s_do rfl (d_call3 Try.call33 rfl (viOwn_spec W0 _ pv ps pm _ (wrF Z pg pa bs) pg hP pa hpa bs.length)) ?_
            rintro _ B_ ⟨rfl, hB_⟩
            obtain rfl := hB_.symm
            rw [hown]
            refine s_yes rfl rfl ?_
            refine s_val rfl (v_neq_bool Try.underlying4 rfl rfl) ?_
            refine s_val rfl (v_pick_f rfl rfl) ?_
            refine s_val rfl (v_move rfl) ?_
            refine s_or rfl rfl rfl ?_ ?_
            · intro g19_13
              exact absurd rfl g19_13
            · intro g19_13
              refine s_val rfl (v_move rfl) ?_
              refine s_yes rfl rfl ?_
              refine s_val rfl (v_move rfl) ?_
              refine s_and rfl rfl rfl ?_ ?_
              · intro g19_15
                refine s_val rfl (v_move rfl) ?_
                refine s_yes rfl rfl ?_
                refine s_val rfl (v_len_slice Try.underlying64 rfl) ?_
                refine s_yes rfl rfl ?_
                refine s_val rfl (v_leq rfl rfl) ?_
                refine s_yes rfl rfl ?_
                refine s_val rfl (v_pick_t rfl rfl) ?_
                refine s_yes rfl rfl ?_
                refine s_val rfl (v_move rfl) ?_
                refine s_and rfl rfl rfl ?_ ?_
                · intro g19_20
                  refine s_val rfl (v_move rfl) ?_
                  refine s_yes rfl rfl ?_
                  refine s_val rfl (v_bstr (E' := 5) Try.underlying64 Try.underlying5 Try.underlying9 rfl rfl rfl) ?_
                  refine s_yes rfl rfl ?_
                  refine s_val rfl (v_move rfl) ?_
                  refine s_yes rfl rfl ?_
                  refine s_val rfl (v_bstrS Try.underlying64 Try.underlying5 Try.underlying9 rfl (sla_base h3)) ?_
                  refine s_yes rfl rfl ?_
                  refine s_val rfl (v_neq_str rfl rfl) ?_
                  refine s_yes rfl rfl ?_
                  refine s_val rfl (v_pick_t rfl rfl) ?_
                  refine s_val rfl (v_pick_f rfl rfl) ?_
                  refine s_val rfl (v_move rfl) ?_
                  refine s_or rfl rfl rfl ?_ ?_
                  · intro g19_28
                    rw [rd_wrF hFZ hP hb ho (by omega)] at g19_28; exact absurd (by simp) g19_28
                  · intro g19_28
                    refine s_val rfl (v_move rfl) ?_
                    refine s_yes rfl rfl ?_
                    refine s_val rfl (v_not rfl) ?_
                    refine s_yes rfl rfl ?_
                    refine s_val rfl (v_move rfl) ?_
                    refine s_and rfl rfl rfl ?_ ?_
                    · intro g19_31
                      exact absurd rfl g19_31
                    · intro g19_31
                      refine s_no rfl rfl rfl rfl ?_
                      refine s_no rfl rfl rfl rfl ?_
                      refine s_no rfl rfl rfl rfl ?_
                      refine s_nou rfl rfl rfl ?_
                      refine s_nou rfl rfl rfl ?_
                      refine s_nou rfl rfl rfl ?_
                      refine s_nou rfl rfl rfl ?_
                      refine s_no rfl rfl rfl rfl ?_
                      refine s_yes rfl rfl ?_
                      refine s_val rfl (v_pick_f rfl rfl) ?_
                      refine s_val rfl (v_pick_f rfl rfl) ?_
                      refine x_nil ?_
                      refine n_then ?_
                      refine x_iff rfl ?_
                      refine x_skip ?_
                      refine n_then ?_
                      refine x_seq ?_
                      refine x_region ?_
                      refine s_do rfl (d_call Try.call34 rfl (awake16_spec W0 _)) ?_
                      rintro _ B_ ⟨rfl, hB_⟩
                      obtain rfl := hB_.symm
                      refine s_val rfl (v_assign rfl) ?_
                      refine x_nil ?_
                      refine n_then ?_
                      refine x_ret ?_
                      refine x_done (.inl rfl) (.cons (r_tmp rfl) .nil) ?_
                      exact ⟨_, ⟨rfl, rfl⟩, inferInstance⟩
                · intro g19_20
                  refine s_no rfl rfl rfl rfl ?_
                  refine s_no rfl rfl rfl rfl ?_
                  refine s_no rfl rfl rfl rfl ?_
                  refine s_no rfl rfl rfl rfl ?_
                  refine s_yes rfl rfl ?_
                  refine s_val rfl (v_pick_f rfl rfl) ?_
                  refine s_val rfl (v_pick_f rfl rfl) ?_
                  refine s_val rfl (v_move rfl) ?_
                  refine s_yes rfl rfl ?_
                  refine s_val rfl (v_move rfl) ?_
                  refine s_yes rfl rfl ?_
                  refine s_val rfl (v_not rfl) ?_
                  refine s_yes rfl rfl ?_
                  refine s_val rfl (v_move rfl) ?_
                  refine s_and rfl rfl rfl ?_ ?_
                  · intro g19_31
                    exact absurd rfl g19_31
                  · intro g19_31
                    refine s_no rfl rfl rfl rfl ?_
                    refine s_no rfl rfl rfl rfl ?_
                    refine s_no rfl rfl rfl rfl ?_
                    refine s_nou rfl rfl rfl ?_
                    refine s_nou rfl rfl rfl ?_
                    refine s_nou rfl rfl rfl ?_
                    refine s_nou rfl rfl rfl ?_
                    refine s_no rfl rfl rfl rfl ?_
                    refine s_yes rfl rfl ?_
                    refine s_val rfl (v_pick_f rfl rfl) ?_
                    refine s_val rfl (v_pick_f rfl rfl) ?_
                    refine x_nil ?_
                    refine n_then ?_
                    refine x_iff rfl ?_
                    refine x_skip ?_
                    refine n_then ?_
                    refine x_seq ?_
                    refine x_region ?_
                    refine s_do rfl (d_call Try.call34 rfl (awake16_spec W0 _)) ?_
                    rintro _ B_ ⟨rfl, hB_⟩
                    obtain rfl := hB_.symm
                    refine s_val rfl (v_assign rfl) ?_
                    refine x_nil ?_
                    refine n_then ?_
                    refine x_ret ?_
                    refine x_done (.inl rfl) (.cons (r_tmp rfl) .nil) ?_
                    exact ⟨_, ⟨rfl, rfl⟩, inferInstance⟩
              · intro g19_15
                exact absurd rfl g19_15
end Go.Proofs.Ytpmacnfjafpdcaa
