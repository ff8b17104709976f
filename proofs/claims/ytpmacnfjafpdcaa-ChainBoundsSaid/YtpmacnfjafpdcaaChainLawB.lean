/-
  Layer 22 (chain): awake, the walks of ChainWalks and ChainBounds.
-/
import Derived.Test.YtpmacnfjafpdcaaChainLaw
import Derived.Test.YtpmacnfjafpdcaaRefChain
namespace Go.Proofs.Ytpmacnfjafpdcaa
open Go.RowKit
set_option linter.unusedSimpArgs false
set_option linter.unusedVariables false
set_option maxRecDepth 20000

def awDs : List Dsc := [⟨64, 4, 1, 0⟩, ⟨64, 4, 0, 0⟩]
theorem awDs_ok : ∀ d ∈ awDs, d.ok := fun d hd => by
  simp only [awDs, List.mem_cons, List.not_mem_nil, or_false] at hd
  rcases hd with rfl | rfl <;> exact ⟨by decide, by decide, by decide, by decide⟩
theorem aw22 : (wkAll (mk22 0 awDs []).1 (pg22 0 8) ⟨0, 0, 0, 2⟩ 0).2 = 2 ∧ (wkAll (mk22 0 awDs []).1 (pg22 0 8) ⟨0, 0, 0, 2⟩ 1).2 = 0 ∧ (wkAll (mk22 0 awDs []).1 (pg22 0 8) ⟨0, 0, 0, 2⟩ 1).1.length = 1 := by decide +kernel
theorem awake22_spec (W0 : World) (R : List HP) : Spec Try.prog W0 62 [] R (fun v B => v = .bool true ∧ B = R) := by
  have hP := pg22_ok 0 8
  obtain ⟨hF, _, _⟩ := mk22_ok 0 awDs []
  obtain ⟨e1, e2, e3⟩ := aw22
  refine spec_body Try.func62 Try.ntmps62 rfl rfl ?_
  refine x_seq ?_
  refine x_region ?_
  refine s_val rfl (v_assign rfl) ?_
  refine x_nil ?_
  refine n_then ?_
  refine x_seq ?_
  refine x_region ?_
  refine s_val rfl (v_build Try.underlying110 Try.zeroValue110 (sized_cons Try.sizeOf24 (sized_cons Try.sizeOf24 (sized_cons Try.sizeOf24 (sized_cons Try.sizeOf24 sized_nil)))) (fil_scal rfl Try.sizeOf24 rfl rfl (Nat.le_of_ble_eq_true rfl) SetL.eq (fil_scal rfl Try.sizeOf24 rfl rfl (Nat.le_of_ble_eq_true rfl) SetL.eq (fil_scal rfl Try.sizeOf24 rfl rfl (Nat.le_of_ble_eq_true rfl) SetL.eq (fil_scal rfl Try.sizeOf24 rfl rfl (Nat.le_of_ble_eq_true rfl) SetL.eq fil_nil))))) ?_
  refine s_val rfl (v_build Try.underlying110 Try.zeroValue110 (sized_cons Try.sizeOf24 (sized_cons Try.sizeOf24 (sized_cons Try.sizeOf24 (sized_cons Try.sizeOf24 sized_nil)))) (fil_scal rfl Try.sizeOf24 rfl rfl (Nat.le_of_ble_eq_true rfl) SetL.eq (fil_scal rfl Try.sizeOf24 rfl rfl (Nat.le_of_ble_eq_true rfl) SetL.eq fil_nil))) ?_
  refine s_do rfl (d_sliceAgg Try.underlying99 Try.sizeOf110 Try.zeroValue110 rfl (elsK_cons rfl rfl (elsK_cons rfl rfl elsK_nil)) rfl (by decide) (by decide) (by decide)) ?_
  rintro _ _ ⟨b1, rfl, rfl⟩
  refine s_do rfl (d_call Try.call56 rfl (made22_spec W0 _ 0 (by decide) _ _ _ _ awDs [] (sla_pt (fun _ => rfl) rfl) awDs_ok (by decide) sla_nil (fun t ht => by simp at ht) (by decide))) ?_
  rintro _ B_ ⟨pv, ps, pm, qv, qs, qm, rfl, hB_⟩
  obtain rfl := hB_.symm
  generalize (mk22 0 awDs []).1 = fr at hF e1 e2 e3
  generalize pg22 0 8 = pg at hP e1 e2 e3
  refine s_val rfl (v_move rfl) ?_
  refine s_val rfl (v_extract rfl rfl) ?_
  refine s_val rfl (v_extract rfl rfl) ?_
  refine s_val rfl (v_assign rfl) ?_
  refine s_val rfl (v_assign rfl) ?_
  refine x_nil ?_
  refine n_then ?_
  refine x_seq ?_
  refine x_seq ?_
  refine x_region ?_
  refine s_val rfl (v_move rfl) ?_
  refine s_val rfl (v_eql_ptr_nil Try.underlying58 rfl rfl) ?_
  refine x_nil ?_
  refine n_then ?_
  refine x_if rfl ?_ ?_
  · intro c2
    cases c2
  · intro c2
    refine x_skip ?_
    refine n_then ?_
    refine x_seq ?_
    refine x_region ?_
    refine s_val rfl (v_move rfl) ?_
    refine s_val rfl (v_build Try.underlying101 Try.zeroValue101 (sized_cons Try.sizeOf24 (sized_cons Try.sizeOf24 (sized_cons Try.sizeOf24 (sized_cons Try.sizeOf3 sized_nil)))) (fil_scal rfl Try.sizeOf3 rfl rfl (Nat.le_of_ble_eq_true rfl) SetL.eq fil_nil)) ?_
    refine s_do rfl (d_call3 Try.call57 rfl (chWalk_spec W0 _ pv ps pm _ fr pg hP hF ⟨0, 0, 0, 2⟩ ⟨by decide, by decide, by decide⟩ 0)) ?_
    rintro _ B_ ⟨a1, k1, rfl, hB_⟩
    obtain rfl := hB_.symm
    rw [e1]
    refine s_val rfl (v_move rfl) ?_
    refine s_val rfl (v_extract rfl rfl) ?_
    refine s_val rfl (v_extract rfl rfl) ?_
    refine s_val rfl (v_assign rfl) ?_
    refine s_val rfl (v_assign rfl) ?_
    refine x_nil ?_
    refine n_then ?_
    refine x_seq ?_
    refine x_region ?_
    refine s_val rfl (v_move rfl) ?_
    refine s_val rfl (v_build Try.underlying101 Try.zeroValue101 (sized_cons Try.sizeOf24 (sized_cons Try.sizeOf24 (sized_cons Try.sizeOf24 (sized_cons Try.sizeOf3 sized_nil)))) (fil_scal rfl Try.sizeOf3 rfl rfl (Nat.le_of_ble_eq_true rfl) SetL.eq fil_nil)) ?_
    refine s_do rfl (d_call3 Try.call57 rfl (chWalk_spec W0 _ pv ps pm _ fr pg hP hF ⟨0, 0, 0, 2⟩ ⟨by decide, by decide, by decide⟩ 1)) ?_
    rintro _ B_ ⟨a2, k2, rfl, hB_⟩
    obtain rfl := hB_.symm
    rw [e2, e3]
    refine s_val rfl (v_move rfl) ?_
    refine s_val rfl (v_extract rfl rfl) ?_
    refine s_val rfl (v_extract rfl rfl) ?_
    refine s_val rfl (v_assign rfl) ?_
    refine s_val rfl (v_assign rfl) ?_
    refine x_nil ?_
    refine n_then ?_
    refine x_seq ?_
    refine x_region ?_
    refine s_val rfl (v_move rfl) ?_
    refine s_val rfl (v_eql rfl rfl) ?_
    refine s_val rfl (v_move rfl) ?_
    refine s_and rfl rfl rfl ?_ ?_
    · intro g6_3
      refine s_val rfl (v_move rfl) ?_
      refine s_yes rfl rfl ?_
      refine s_val rfl (v_eql rfl rfl) ?_
      refine s_val rfl (v_pick_t rfl rfl) ?_
      refine s_val rfl (v_move rfl) ?_
      refine s_and rfl rfl rfl ?_ ?_
      · intro g6_7
        refine s_val rfl (v_move rfl) ?_
        refine s_yes rfl rfl ?_
        refine s_val rfl (v_len_slice Try.underlying99 rfl) ?_
        refine s_yes rfl rfl ?_
        refine s_val rfl (v_eql rfl rfl) ?_
        refine s_val rfl (v_pick_t rfl rfl) ?_
        refine s_val rfl (v_assign rfl) ?_
        refine x_nil ?_
        refine n_then ?_
        refine x_ret ?_
        refine x_done (.inl rfl) (.cons (r_tmp rfl) .nil) ?_
        exact ⟨_, ⟨rfl, rfl⟩, inferInstance⟩
      · intro g6_7
        exact absurd rfl g6_7
    · intro g6_3
      exact absurd rfl g6_3
theorem dsv_get {l : List Dsc} {i j : Nat} {v : Value} (h : i < l.length) (hj : (dsV l[i])[j]? = some v) : (l.flatMap dsV)[i * 4 + j]? = some v := by
  have hj4 : j < 4 := by
    rcases Nat.lt_or_ge j 4 with q | q
    · exact q
    · rw [List.getElem?_eq_none (show (dsV l[i]).length ≤ j from q)] at hj; cases hj
  have := flat_get dsV_flat_len l i j [] h hj4
  rw [List.append_nil] at this
  rw [this, hj]
theorem descs22_sla (W0 : World) (R : List HP) (a1 a2 : Option Addr) (k1 k2 : Nat) (l : List Dsc) (h1 : SlA (OwnP W0 R) a1 4 dsV l) (h2 : SlA (OwnP W0 R) a2 4 dsV l) (hl : l.length ≤ 1000) :
    Spec Try.prog W0 59 [.slice a1 l.length k1, .slice a2 l.length k2] R (fun v B => v = .bool true ∧ B = R) := by
  refine spec_body Try.func59 Try.ntmps59 rfl rfl ?_
  refine x_seq ?_
  refine x_region ?_
  refine s_val rfl (v_assign rfl) ?_
  refine x_nil ?_
  refine n_then ?_
  refine x_seq ?_
  refine x_seq ?_
  refine x_region ?_
  refine s_val rfl (v_move rfl) ?_
  refine s_val rfl (v_len_slice Try.underlying99 rfl) ?_
  refine s_val rfl (v_move rfl) ?_
  refine s_val rfl (v_len_slice Try.underlying99 rfl) ?_
  refine s_val rfl (v_neq rfl rfl) ?_
  refine x_nil ?_
  refine n_then ?_
  refine x_if rfl ?_ ?_
  · intro c1
    exact absurd rfl c1
  · intro c1
    refine x_skip ?_
    refine n_then ?_
    refine x_seq ?_
    refine x_seq ?_
    refine x_region ?_
    refine s_val rfl (v_assign rfl) ?_
    refine x_nil ?_
    refine n_then ?_
    refine x_block ?_
    refine x_loop (fun i : Nat => i ≤ l.length) (fun i => [(0, .slice a1 l.length k1), (1, .slice a2 l.length k2), (5, .int .i64 i)]) (fun i => R) (fun i => l.length - i) 0 ?_ ?_ ?_ ?_
    · exact Nat.zero_le _
    · repeat (first | exact sub_nil | refine sub_cons rfl ?_)
    · exact inferInstance
    · intro i hi
      refine x_seq ?_
      refine x_seq ?_
      refine x_region ?_
      refine s_val rfl (v_move rfl) ?_
      refine s_val rfl (v_move rfl) ?_
      refine s_val rfl (v_len_slice Try.underlying99 rfl) ?_
      refine s_val rfl (v_lss rfl rfl) ?_
      refine s_val rfl (v_move rfl) ?_
      refine s_and rfl rfl rfl ?_ ?_
      · intro g4_5
        refine s_val rfl (v_move rfl) ?_
        refine s_yes rfl rfl ?_
        refine s_val rfl (v_move rfl) ?_
        refine s_yes rfl rfl ?_
        refine s_val rfl (v_len_slice Try.underlying99 rfl) ?_
        refine s_yes rfl rfl ?_
        refine s_val rfl (v_lss rfl rfl) ?_
        refine s_val rfl (v_pick_t rfl rfl) ?_
        refine x_nil ?_
        refine n_then ?_
        refine x_if rfl ?_ ?_
        · intro c4
          refine x_skip ?_
          refine n_then ?_
          refine x_seq ?_
          refine x_block ?_
          refine x_seq ?_
          have hi1 : i < l.length := by omega
          obtain ⟨g, o, rfl, hc⟩ := h1.at_ hi1
          obtain ⟨g', o', rfl, hc'⟩ := h2.at_ hi1
          refine x_draw [(g, o + i * 4, dsV l[i]), (g', o' + i * 4, dsV l[i])] 9 mixed rfl (sc_cons hc.weak (sc_cons hc'.weak sc_end)) (fun hS => ?_)
          refine d_take 0 rfl rfl (by kernel_rfl) (by kernel_rfl) (by kernel_rfl) rfl hS (v_move rfl) ?_
          refine d_take 1 rfl rfl (by kernel_rfl) (by kernel_rfl) (by kernel_rfl) rfl hS (v_move rfl) ?_
          refine d_take 2 rfl rfl (by kernel_rfl) (by kernel_rfl) (by kernel_rfl) rfl hS (v_idx Try.underlying99 Try.sizeOf110 rfl rfl rfl hi1 (by first | exact Nat.zero_add _ | rfl)) ?_
          refine d_take 3 rfl rfl (by kernel_rfl) (by kernel_rfl) (by kernel_rfl) rfl hS (v_loadAgg Try.isAgg110 Try.sizeOf110 rfl (cells_sc (k := 0) rfl) rfl) ?_
          refine d_take 4 rfl rfl (by kernel_rfl) (by kernel_rfl) (by kernel_rfl) rfl hS (v_move rfl) ?_
          refine d_take 5 rfl rfl (by kernel_rfl) (by kernel_rfl) (by kernel_rfl) rfl hS (v_move rfl) ?_
          refine d_take 6 rfl rfl (by kernel_rfl) (by kernel_rfl) (by kernel_rfl) rfl hS (v_idx Try.underlying99 Try.sizeOf110 rfl rfl rfl hi1 (by first | exact Nat.zero_add _ | rfl)) ?_
          refine d_take 7 rfl rfl (by kernel_rfl) (by kernel_rfl) (by kernel_rfl) rfl hS (v_loadAgg Try.isAgg110 Try.sizeOf110 rfl (cells_sc (k := 1) rfl) rfl) ?_
          refine d_take 8 rfl rfl (by kernel_rfl) (by kernel_rfl) (by kernel_rfl) rfl hS (v_neq_agg Try.eqGuardType110 rfl rfl (q_struct Try.underlying110 Try.stoodInHeld110 (qf_scal rfl Try.isAgg24 rfl rfl (q_int Try.underlying24) (qf_scal rfl Try.isAgg24 rfl rfl (q_int Try.underlying24) (qf_scal rfl Try.isAgg24 rfl rfl (q_int Try.underlying24) (qf_scal rfl Try.isAgg24 rfl rfl (q_int Try.underlying24) qf_nil)))))) ?_
          refine d_done (by kernel_rfl) ?_; clear hS
          refine n_then ?_
          refine x_if rfl ?_ ?_
          · intro c6
            exact absurd (by simp) c6
          · intro c6
            refine x_skip ?_
            refine n_block ?_
            refine n_then ?_
            refine x_region ?_
            refine s_val rfl (v_move rfl) ?_
            refine s_val rfl (v_add rfl rfl (by first | exact w64 (by omega) | rfl)) ?_
            refine s_val rfl (v_assign rfl) ?_
            refine x_nil ?_
            refine n_then ?_
            refine inv_intro (i + 1) ?_ ?_ ?_ ?_
            · omega
            · omega
            · repeat (first | exact sub_nil | refine sub_cons rfl ?_)
            · exact inferInstance
        · intro c4
          refine x_exit ?_
          refine e_then ?_
          refine e_then ?_
          refine e_block ?_
          refine n_then ?_
          refine x_seq ?_
          refine x_region ?_
          refine s_val rfl (v_assign rfl) ?_
          refine x_nil ?_
          refine n_then ?_
          refine x_ret ?_
          refine x_done (.inl rfl) (.cons (r_tmp rfl) .nil) ?_
          exact ⟨_, ⟨rfl, rfl⟩, inferInstance⟩
      · intro g4_5
        refine s_no rfl rfl rfl rfl ?_
        refine s_no rfl rfl rfl rfl ?_
        refine s_no rfl rfl rfl rfl ?_
        refine s_val rfl (v_pick_f rfl rfl) ?_
        refine x_nil ?_
        refine n_then ?_
        refine x_iff rfl ?_
        refine x_exit ?_
        refine e_then ?_
        refine e_then ?_
        refine e_block ?_
        refine n_then ?_
        refine x_seq ?_
        refine x_region ?_
        refine s_val rfl (v_assign rfl) ?_
        refine x_nil ?_
        refine n_then ?_
        refine x_ret ?_
        refine x_done (.inl rfl) (.cons (r_tmp rfl) .nil) ?_
        exact ⟨_, ⟨rfl, rfl⟩, inferInstance⟩
theorem descs22_spec (W0 : World) (R : List HP) (a1 a2 : Option Addr) (k1 k2 : Nat) (l : List Dsc) (hl : l.length ≤ 1000) :
    Spec Try.prog W0 59 [.slice a1 l.length k1, .slice a2 l.length k2] (osl 110 4 (.slice a1 l.length k1) (l.flatMap dsV) :: osl 110 4 (.slice a2 l.length k2) (l.flatMap dsV) :: R)
      (fun v B => v = .bool true ∧ B = osl 110 4 (.slice a1 l.length k1) (l.flatMap dsV) :: osl 110 4 (.slice a2 l.length k2) (l.flatMap dsV) :: R) :=
  spec_sla (h := tk_here) dsV l (fun _ => rfl) (by decide) rfl (fun hs1 => spec_sla (h := tk_there (h := tk_here)) dsV l (fun _ => rfl) (by decide) rfl (fun hs2 => descs22_sla W0 _ a1 a2 k1 k2 l hs1 hs2 hl))

theorem ChainWalks_walk (W0 : World) (gone : Nat) (hg : gone < 256) (al ah : Option Addr) (cl ch : Nat) (ds : List Dsc) (heads : List Int) (r : Rg3) (hr : r.ok) (hds : SlB W0 al 4 dsV ds) (hok : ∀ d ∈ ds, d.ok) (hl : ds.length < 9223372036854775808) (hh : SlB W0 ah 1 inI heads) (hl2 : heads.length < 9223372036854775808) :
    Spec Try.prog W0 13 [.int .u8 gone, .slice al ds.length cl, .agg (rgV r).toArray, .slice ah heads.length ch] [] (fun v B => v = .bool true ∧ B = []) := by
  have hP := pg22_ok gone 8
  obtain ⟨hF, _, _⟩ := mk22_ok gone ds []
  refine spec_body Try.func13 Try.ntmps13 rfl rfl ?_
  refine x_seq ?_
  refine x_region ?_
  refine s_do rfl (d_boxA rfl) ?_
  rintro _ _ ⟨b1, rfl, rfl⟩
  refine s_val rfl (v_assign rfl) ?_
  refine x_nil ?_
  refine n_then ?_
  refine x_seq ?_
  refine x_region ?_
  refine s_val rfl (v_move rfl) ?_
  refine s_val rfl (v_move rfl) ?_
  refine s_do rfl (d_call Try.call56 rfl (made22_spec W0 _ gone hg _ _ _ _ ds [] (sla_base hds) hok hl sla_nil (fun t ht => by simp at ht) (by decide))) ?_
  rintro _ B_ ⟨pv, ps, pm, qv, qs, qm, rfl, hB_⟩
  obtain rfl := hB_.symm
  generalize (mk22 gone ds []).1 = fr at hF
  generalize (mk22 gone ds []).2 = dd
  generalize pg22 gone 8 = pg at hP
  refine s_val rfl (v_move rfl) ?_
  refine s_val rfl (v_extract rfl rfl) ?_
  refine s_val rfl (v_extract rfl rfl) ?_
  refine s_val rfl (v_assign rfl) ?_
  refine s_val rfl (v_assign rfl) ?_
  refine x_nil ?_
  refine n_then ?_
  refine x_seq ?_
  refine x_seq ?_
  refine x_region ?_
  refine s_val rfl (v_move rfl) ?_
  refine s_val rfl (v_eql_ptr_nil Try.underlying58 rfl rfl) ?_
  refine s_val rfl (v_move rfl) ?_
  refine s_or rfl rfl rfl ?_ ?_
  · intro g2_3
    cases g2_3
  · intro g2_3
    refine s_val rfl (v_move rfl) ?_
    refine s_yes rfl rfl ?_
    refine s_val rfl (v_eql_ptr_nil Try.underlying59 rfl rfl) ?_
    refine s_val rfl (v_pick_f rfl rfl) ?_
    refine x_nil ?_
    refine n_then ?_
    refine x_if rfl ?_ ?_
    · intro c2
      cases c2
    · intro c2
      refine x_skip ?_
      refine n_then ?_
      refine x_seq ?_
      refine x_seq ?_
      refine x_region ?_
      refine s_val rfl (v_assign rfl) ?_
      refine x_nil ?_
      refine n_then ?_
      refine x_block ?_
      refine x_loop (fun i : Nat => i ≤ heads.length) (fun i => [(3, .slice ah heads.length ch), (6, .pointer (some ⟨b1, 0, none⟩)), (9, .pointer (some ⟨pv, 0, none⟩)), (10, .pointer (some ⟨qv, 0, none⟩)), (11, .int .i64 i)]) (fun i => pt b1 (cob (rgV r) 101) :: prH pv ps pm qv qs qm dd fr pg []) (fun i => heads.length - i) 0 ?_ ?_ ?_ ?_
      · exact Nat.zero_le _
      · repeat (first | exact sub_nil | refine sub_cons rfl ?_)
      · exact inferInstance
      · intro i hi
        refine x_seq ?_
        refine x_seq ?_
        refine x_region ?_
        refine s_val rfl (v_move rfl) ?_
        refine s_val rfl (v_move rfl) ?_
        refine s_val rfl (v_len_slice Try.underlying56 rfl) ?_
        refine s_val rfl (v_lss rfl rfl) ?_
        refine s_val rfl (v_move rfl) ?_
        refine s_and rfl rfl rfl ?_ ?_
        · intro g5_5
          refine s_val rfl (v_move rfl) ?_
          refine s_yes rfl rfl ?_
          refine s_val rfl (v_lss rfl rfl) ?_
          refine s_val rfl (v_pick_t rfl rfl) ?_
          refine x_nil ?_
          refine n_then ?_
          refine x_if rfl ?_ ?_
          · intro c5
            refine x_skip ?_
            refine n_then ?_
            refine x_seq ?_
            refine x_block ?_
            refine x_seq ?_
            have hi1 : i < heads.length := by omega
            obtain ⟨gh, oh, rfl, hc⟩ := hh i heads[i] (by simp [hi1])
            obtain ⟨hwo, hwl⟩ := wkAll_ok hF pg r heads[i]
            refine x_draw [(b1, 0, _), (gh, oh + i * 1, inI heads[i])] 12 mixed rfl (sc_own (sc_cons (hc _) sc_end)) (fun hS => ?_)
            refine d_take 0 rfl rfl (by kernel_rfl) (by kernel_rfl) (by kernel_rfl) rfl hS (v_move rfl) ?_
            refine d_take 1 rfl rfl (by kernel_rfl) (by kernel_rfl) (by kernel_rfl) rfl hS (v_loadAgg Try.isAgg101 Try.sizeOf101 rfl (by first | exact cells_sc (k := 0) rfl | exact cells_sc (k := 1) rfl) rfl) ?_
            refine d_take 2 rfl rfl (by kernel_rfl) (by kernel_rfl) (by kernel_rfl) rfl hS (v_move rfl) ?_
            refine d_take 3 rfl rfl (by kernel_rfl) (by kernel_rfl) (by kernel_rfl) rfl hS (v_move rfl) ?_
            refine d_take 4 rfl rfl (by kernel_rfl) (by kernel_rfl) (by kernel_rfl) rfl hS (v_idx Try.underlying56 Try.sizeOf3 rfl rfl rfl hi1 (by first | exact Nat.zero_add _ | rfl)) ?_
            refine d_take 5 rfl rfl (by kernel_rfl) (by kernel_rfl) (by kernel_rfl) rfl hS (v_load Try.isAgg3 rfl (cell_sc1 (k := 1) rfl)) ?_
            refine d_one 6 (by kernel_rfl) rfl rfl (d_call3 Try.call57 rfl (chWalk_spec W0 _ pv ps pm dd fr pg hP hF r hr heads[i])) rfl ?_; clear hS
            rintro _ B_ ⟨a1, k1, rfl, hB_⟩
            obtain rfl := hB_.symm
            refine ⟨(sc_own (sc_cons (hc _) sc_end)), fun hS => ?_⟩
            refine d_take 7 rfl rfl (by kernel_rfl) (by kernel_rfl) (by kernel_rfl) rfl hS (v_move rfl) ?_
            refine d_take 8 rfl rfl (by kernel_rfl) (by kernel_rfl) (by kernel_rfl) rfl hS (v_extract rfl rfl) ?_
            refine d_take 9 rfl rfl (by kernel_rfl) (by kernel_rfl) (by kernel_rfl) rfl hS (v_extract rfl rfl) ?_
            refine d_take 10 rfl rfl (by kernel_rfl) (by kernel_rfl) (by kernel_rfl) rfl hS (v_assign rfl) ?_
            refine d_take 11 rfl rfl (by kernel_rfl) (by kernel_rfl) (by kernel_rfl) rfl hS (v_assign rfl) ?_
            refine d_done (by kernel_rfl) ?_; clear hS
            refine n_then ?_
            refine x_seq ?_
            refine x_draw [(b1, 0, _), (gh, oh + i * 1, inI heads[i])] 12 mixed rfl (sc_own (sc_cons (hc _) sc_end)) (fun hS => ?_)
            refine d_take 0 rfl rfl (by kernel_rfl) (by kernel_rfl) (by kernel_rfl) rfl hS (v_move rfl) ?_
            refine d_take 1 rfl rfl (by kernel_rfl) (by kernel_rfl) (by kernel_rfl) rfl hS (v_loadAgg Try.isAgg101 Try.sizeOf101 rfl (by first | exact cells_sc (k := 0) rfl | exact cells_sc (k := 1) rfl) rfl) ?_
            refine d_take 2 rfl rfl (by kernel_rfl) (by kernel_rfl) (by kernel_rfl) rfl hS (v_move rfl) ?_
            refine d_take 3 rfl rfl (by kernel_rfl) (by kernel_rfl) (by kernel_rfl) rfl hS (v_move rfl) ?_
            refine d_take 4 rfl rfl (by kernel_rfl) (by kernel_rfl) (by kernel_rfl) rfl hS (v_idx Try.underlying56 Try.sizeOf3 rfl rfl rfl hi1 (by first | exact Nat.zero_add _ | rfl)) ?_
            refine d_take 5 rfl rfl (by kernel_rfl) (by kernel_rfl) (by kernel_rfl) rfl hS (v_load Try.isAgg3 rfl (cell_sc1 (k := 1) rfl)) ?_
            refine d_one 6 (by kernel_rfl) rfl rfl (d_call3 Try.call58 rfl (rcWalk_spec W0 _ qv qs qm dd fr pg hP hF r hr heads[i])) rfl ?_; clear hS
            rintro _ B_ ⟨a2, k2, rfl, hB_⟩
            obtain rfl := hB_.symm
            refine ⟨(sc_own (sc_cons (hc _) sc_end)), fun hS => ?_⟩
            refine d_take 7 rfl rfl (by kernel_rfl) (by kernel_rfl) (by kernel_rfl) rfl hS (v_move rfl) ?_
            refine d_take 8 rfl rfl (by kernel_rfl) (by kernel_rfl) (by kernel_rfl) rfl hS (v_extract rfl rfl) ?_
            refine d_take 9 rfl rfl (by kernel_rfl) (by kernel_rfl) (by kernel_rfl) rfl hS (v_extract rfl rfl) ?_
            refine d_take 10 rfl rfl (by kernel_rfl) (by kernel_rfl) (by kernel_rfl) rfl hS (v_assign rfl) ?_
            refine d_take 11 rfl rfl (by kernel_rfl) (by kernel_rfl) (by kernel_rfl) rfl hS (v_assign rfl) ?_
            refine d_done (by kernel_rfl) ?_; clear hS
            refine n_then ?_
            refine x_seq ?_
            refine x_region ?_
            refine s_val rfl (v_move rfl) ?_
            refine s_val rfl (v_move rfl) ?_
            refine s_do rfl (d_call2 Try.call59 rfl (descs22_spec W0 _ a1 a2 k1 k2 (wkAll fr pg r heads[i]).1 (by omega))) ?_
            rintro _ B_ ⟨rfl, hB_⟩
            obtain rfl := hB_.symm
            refine s_val rfl (v_not rfl) ?_
            refine s_val rfl (v_move rfl) ?_
            refine s_or rfl rfl rfl ?_ ?_
            · intro g9_5
              exact absurd rfl g9_5
            · intro g9_5
              refine s_val rfl (v_move rfl) ?_
              refine s_yes rfl rfl ?_
              refine s_val rfl (v_move rfl) ?_
              refine s_yes rfl rfl ?_
              refine s_val rfl (v_neq rfl rfl) ?_
              refine s_val rfl (v_pick_f rfl rfl) ?_
              refine s_val rfl (v_move rfl) ?_
              refine s_or rfl rfl rfl ?_ ?_
              · intro g9_10
                exact absurd rfl g9_10
              · intro g9_10
                refine s_val rfl (v_move rfl) ?_
                refine s_yes rfl rfl ?_
                refine s_do rfl (d_call1 Try.call60 rfl (chLen_spec W0 _ a1 k1 _ true hwo (by omega))) ?_
                rintro _ B_ ⟨rfl, hB_⟩
                obtain rfl := hB_.symm
                refine s_yes rfl rfl ?_
                refine s_val rfl (v_move rfl) ?_
                refine s_yes rfl rfl ?_
                refine s_do rfl (d_call1 Try.call61 rfl (rcLen_spec W0 _ a2 k2 _ true hwo (by omega))) ?_
                rintro _ B_ ⟨rfl, hB_⟩
                obtain rfl := hB_.symm
                refine s_yes rfl rfl ?_
                refine s_val rfl (v_neq rfl rfl) ?_
                refine s_val rfl (v_pick_f rfl rfl) ?_
                refine s_val rfl (v_move rfl) ?_
                refine s_or rfl rfl rfl ?_ ?_
                · intro g9_17
                  exact absurd rfl g9_17
                · intro g9_17
                  refine s_val rfl (v_move rfl) ?_
                  refine s_yes rfl rfl ?_
                  refine s_do rfl (d_call1 Try.call60 rfl (chLen_spec W0 _ a1 k1 _ false hwo (by omega))) ?_
                  rintro _ B_ ⟨rfl, hB_⟩
                  obtain rfl := hB_.symm
                  refine s_yes rfl rfl ?_
                  refine s_val rfl (v_move rfl) ?_
                  refine s_yes rfl rfl ?_
                  refine s_do rfl (d_call1 Try.call61 rfl (rcLen_spec W0 _ a2 k2 _ false hwo (by omega))) ?_
                  rintro _ B_ ⟨rfl, hB_⟩
                  obtain rfl := hB_.symm
                  refine s_yes rfl rfl ?_
                  refine s_val rfl (v_neq rfl rfl) ?_
                  refine s_val rfl (v_pick_f rfl rfl) ?_
                  refine x_nil ?_
                  refine n_then ?_
                  refine x_if rfl ?_ ?_
                  · intro c9
                    exact absurd rfl c9
                  · intro c9
                    refine x_skip ?_
                    refine n_block ?_
                    refine n_then ?_
                    refine x_region ?_
                    refine s_val rfl (v_move rfl) ?_
                    refine s_val rfl (v_add rfl rfl (by first | exact w64 (by omega) | rfl)) ?_
                    refine s_val rfl (v_assign rfl) ?_
                    refine x_nil ?_
                    refine n_then ?_
                    refine inv_intro (i + 1) ?_ ?_ ?_ ?_
                    · omega
                    · omega
                    · repeat (first | exact sub_nil | refine sub_cons rfl ?_)
                    · exact inferInstance
          · intro c5
            refine x_exit ?_
            refine e_then ?_
            refine e_then ?_
            refine e_block ?_
            refine n_then ?_
            refine x_seq ?_
            refine x_region ?_
            refine s_do rfl (d_call Try.call62 rfl (awake22_spec W0 _)) ?_
            rintro _ B_ ⟨rfl, hB_⟩
            obtain rfl := hB_.symm
            refine s_val rfl (v_assign rfl) ?_
            refine x_nil ?_
            refine n_then ?_
            refine x_ret ?_
            refine x_done (.inl rfl) (.cons (r_tmp rfl) .nil) ?_
            exact ⟨_, ⟨rfl, rfl⟩, inferInstance⟩
        · intro g5_5
          refine s_no rfl rfl rfl rfl ?_
          refine s_val rfl (v_pick_f rfl rfl) ?_
          refine x_nil ?_
          refine n_then ?_
          refine x_iff rfl ?_
          refine x_exit ?_
          refine e_then ?_
          refine e_then ?_
          refine e_block ?_
          refine n_then ?_
          refine x_seq ?_
          refine x_region ?_
          refine s_do rfl (d_call Try.call62 rfl (awake22_spec W0 _)) ?_
          rintro _ B_ ⟨rfl, hB_⟩
          obtain rfl := hB_.symm
          refine s_val rfl (v_assign rfl) ?_
          refine x_nil ?_
          refine n_then ?_
          refine x_ret ?_
          refine x_done (.inl rfl) (.cons (r_tmp rfl) .nil) ?_
          exact ⟨_, ⟨rfl, rfl⟩, inferInstance⟩

/-! ### Bounds -/
theorem lk_all {fr : List Frm} {pg : List Pl} {r : Rg3} {at_ : Int} {n : Nat} {wr : Bool} (h : (lk fr pg r at_ n wr).2 = 0) :
    ownB fr.length pg (lk fr pg r at_ n wr).1.addr (lk fr pg r at_ n wr).1.len = true ∧ (lk fr pg r at_ n wr).1.len ≤ 64 ∧ (wr = true → wrB (lk fr pg r at_ n wr).1 = true) := by
  unfold lk at h ⊢
  by_cases q1 : at_ < 0 ∨ r.n ≤ at_
  · rw [if_pos q1] at h; exact absurd h (by decide)
  rw [if_neg q1] at h ⊢
  by_cases q2 : r.n ≤ (n : Int)
  · rw [if_pos q2] at h; exact absurd h (by decide)
  rw [if_neg q2] at h ⊢
  by_cases q3 : ownB fr.length pg (dsPa r at_.toNat) 16 = false
  · rw [if_pos q3] at h; exact absurd h (by decide)
  rw [if_neg q3] at h ⊢
  by_cases q4 : chkC (dsAt fr pg r at_.toNat) r.n.toNat ≠ 0
  · rw [if_pos q4] at h; exact absurd h q4
  rw [if_neg q4] at h ⊢
  by_cases q5 : ownB fr.length pg (dsAt fr pg r at_.toNat).addr (dsAt fr pg r at_.toNat).len = false
  · rw [if_pos q5] at h; exact absurd h (by decide)
  rw [if_neg q5] at h ⊢
  by_cases q6 : wr = true ∧ wrB (dsAt fr pg r at_.toNat) = false
  · rw [if_pos q6] at h; exact absurd h (by decide)
  rw [if_neg q6]
  simp only
  refine ⟨by simpa using q5, ?_, fun hw => ?_⟩
  · rcases Nat.lt_or_ge 64 (dsAt fr pg r at_.toNat).len with q | q
    · exact absurd (by unfold chkC; repeat' split
                       all_goals first | decide | omega) q4
    · exact q
  · rcases hb : wrB (dsAt fr pg r at_.toNat) with _ | _
    · exact absurd ⟨hw, hb⟩ q6
    · rfl
theorem wkSt_get {fr : List Frm} {pg : List Pl} {r : Rg3} {head : Int} : ∀ n i (h : i < (wkSt fr pg r head n).2.2.length), (wkSt fr pg r head n).2.2[i] = (lkN fr pg r head i).1
  | 0, i, h => by simp [wkSt] at h
  | n + 1, i, h => by
    have hl := wkSt_len fr pg r head n
    have h' : i < n + 1 := by rw [wkSt_len] at h; exact h
    have e : (wkSt fr pg r head (n + 1)).2.2 = (wkSt fr pg r head n).2.2 ++ [(lkN fr pg r head n).1] := rfl
    rw [List.getElem_of_eq e]
    rcases Nat.lt_or_ge i n with q | q
    · rw [List.getElem_append_left (by omega)]; exact wkSt_get n i (by omega)
    · have : i = n := by omega
      subst this
      rw [List.getElem_append_right (by omega)]
      simp
/-- What a walk's chain is like. -/
structure WkOk (fr : List Frm) (pg : List Pl) (r : Rg3) (l : List Dsc) (c : Int) : Prop where
  zero : c = 0 ↔ 0 < l.length
  len : (l.length : Int) ≤ max r.n 0
  own : ∀ i (h : i < l.length), ownB fr.length pg l[i].addr l[i].len = true ∧ l[i].len ≤ 64 ∧ l[i].flags < 4
  ord : ∀ i (h : i + 1 < l.length), wrB l[i] = true → wrB l[i + 1] = true
  go : ∀ i (h : i < l.length), goB l[i] = true ↔ i + 1 < l.length
theorem wkAll_facts (fr : List Frm) (pg : List Pl) (r : Rg3) (head : Int) : WkOk fr pg r (wkAll fr pg r head).1 (wkAll fr pg r head).2 := by
  rcases wkAll_or fr pg r head with ⟨c, h, hc⟩ | ⟨m, hm, h, hal, hz, hg⟩
  · rw [h]
    exact ⟨⟨fun q => absurd q hc, fun q => by simp at q⟩, by simp; omega, fun i h => by simp at h, fun i h => by simp at h, fun i h => by simp at h⟩
  · rw [h]
    have hl := wkSt_len fr pg r head (m + 1)
    have hok : ∀ i, i < m + 1 → (lkN fr pg r head i).2 = 0 := fun i hi => by
      rcases Nat.lt_or_ge i m with q | q
      · exact (hal i q).1
      · rw [show i = m by omega]; exact hz
    refine ⟨⟨fun _ => by rw [hl]; omega, fun _ => rfl⟩, ?_, fun i hi => ?_, fun i hi hw => ?_, fun i hi => ?_⟩
    · have := lk_n hz; rw [hl]; omega
    · rw [wkSt_get]
      have hi' : i < m + 1 := by rw [← hl]; exact hi
      exact ⟨(lk_all (hok i hi')).1, (lk_all (hok i hi')).2.1, lk_flags (hok i hi')⟩
    · have hi' : i + 1 < m + 1 := by rw [← hl]; exact hi
      rw [wkSt_get] at hw ⊢
      refine (lk_all (hok (i + 1) hi')).2.2 ?_
      exact hw
    · have hi' : i < m + 1 := by rw [← hl]; exact hi
      simp only [hl]
      rw [wkSt_get]
      rcases Nat.lt_or_ge i m with q | q
      · exact ⟨fun _ => by omega, fun _ => (hal i q).2⟩
      · have : i = m := by omega
        subst this
        exact ⟨fun k => absurd k (by rw [hg]; decide), fun k => absurd k (by omega)⟩
theorem len_sum {l : List Dsc} (h : ∀ i (h : i < l.length), l[i].len ≤ 64) : lenW l true + lenW l false ≤ l.length * 64 := by
  induction l with
  | nil => simp [lenW]
  | cons d l ih =>
    have h0 := h 0 (by simp)
    have h1 := ih (fun i hi => by have := h (i + 1) (by simp; omega); simpa using this)
    simp only [List.getElem_cons_zero] at h0
    simp only [lenW, List.map_cons, List.sum_cons, List.length_cons] at h1 ⊢
    cases wrB d <;> simp <;> omega
theorem shl2 {k : Nat} (h : k < 3) : bShl .i64 2 (k : Int) = ((2 * 2 ^ k : Nat) : Int) := by
  have : ∀ k : Nat, k < 3 → bShl .i64 2 (k : Int) = ((2 * 2 ^ k : Nat) : Int) := by decide
  exact this k h
theorem pow3 {k : Nat} (h : k < 3) : 2 * 2 ^ k ≤ 8 := by
  have : ∀ k : Nat, k < 3 → 2 * 2 ^ k ≤ 8 := by decide
  exact this k h
def prvW (l : List Dsc) : Nat → Bool
  | 0 => false
  | i + 1 => wrB (l.getD i zD)
theorem ChainBounds_walk (W0 : World) (gone : Nat) (hg : gone < 256) (al : Option Addr) (cl : Nat) (ds : List Dsc) (hds : SlB W0 al 4 dsV ds) (hok : ∀ d ∈ ds, d.ok) (hl : ds.length < 9223372036854775808) (n : Nat) (hn : n < 256) (head : Int) :
    Spec Try.prog W0 14 [.int .u8 gone, .slice al ds.length cl, .int .u8 n, .int .i64 head] [] (fun v B => v = .bool true ∧ B = []) := by
  have hP := pg22_ok gone 8
  obtain ⟨hF, _, hd⟩ := mk22_ok gone ds []
  have hp3 := pow3 (k := n % 3) (Nat.mod_lt _ (by decide))
  refine spec_body Try.func14 Try.ntmps14 rfl rfl ?_
  refine x_seq ?_
  refine x_region ?_
  refine s_val rfl (v_assign rfl) ?_
  refine x_nil ?_
  refine n_then ?_
  refine x_seq ?_
  refine x_region ?_
  refine s_val rfl (v_move rfl) ?_
  refine s_val rfl (v_move rfl) ?_
  refine s_do rfl (d_call Try.call56 rfl (made22_spec W0 _ gone hg _ _ _ _ ds [] (sla_base hds) hok hl sla_nil (fun t ht => by simp at ht) (by decide))) ?_
  rintro _ B_ ⟨pv, ps, pm, qv, qs, qm, rfl, hB_⟩
  obtain rfl := hB_.symm
  generalize (mk22 gone ds []).1 = fr at hF
  generalize (mk22 gone ds []).2 = dd at hd
  generalize pg22 gone 8 = pg at hP
  refine s_val rfl (v_move rfl) ?_
  refine s_val rfl (v_extract rfl rfl) ?_
  refine s_val rfl (v_extract rfl rfl) ?_
  refine s_val rfl (v_assign rfl) ?_
  refine s_val rfl (v_assign rfl) ?_
  refine x_nil ?_
  refine n_then ?_
  refine x_seq ?_
  refine x_seq ?_
  refine x_region ?_
  refine s_val rfl (v_move rfl) ?_
  refine s_val rfl (v_eql_ptr_nil Try.underlying58 rfl rfl) ?_
  refine x_nil ?_
  refine n_then ?_
  refine x_if rfl ?_ ?_
  · intro c2
    cases c2
  · intro c2
    refine x_skip ?_
    refine n_then ?_
    refine x_seq ?_
    refine x_region ?_
    refine s_val rfl (v_move rfl) ?_
    refine s_val rfl (v_rem rfl rfl (by decide) (tmodN n 3)) ?_
    refine s_val rfl (v_shl rfl rfl (by omega) (shl2 (Nat.mod_lt _ (by decide)))) ?_
    refine s_val rfl (v_build Try.underlying101 Try.zeroValue101 (sized_cons Try.sizeOf24 (sized_cons Try.sizeOf24 (sized_cons Try.sizeOf24 (sized_cons Try.sizeOf3 sized_nil)))) (fil_scal rfl Try.sizeOf3 rfl rfl (Nat.le_of_ble_eq_true rfl) SetL.eq fil_nil)) ?_
    refine s_do rfl (d_allocA Try.zeroValue101) ?_
    rintro _ _ ⟨b1, rfl, rfl⟩
    refine s_do0 (d_storeAll Try.sizeOf101 rfl rfl rfl rfl rfl) ?_
    rintro _ _ rfl
    refine x_nil ?_
    refine n_then ?_
    refine x_seq ?_
    refine x_region ?_
    refine s_val rfl (v_move rfl) ?_
    refine s_do rfl (d_call1 Try.call43 rfl (viDirty_spec W0 _ pv ps pm dd hd)) ?_
    rintro _ B_ ⟨a1, k1, rfl, hB_⟩
    obtain rfl := hB_.symm
    generalize hN : 2 * 2 ^ (n % 3) = N at hp3
    obtain ⟨hwo, hwl⟩ := wkAll_ok hF pg ⟨0, 0, 0, N⟩ head
    have hW := wkAll_facts fr pg ⟨0, 0, 0, N⟩ head
    refine x_nil ?_
    refine n_then ?_
    refine x_seq ?_
    refine x_region ?_
    refine s_val rfl (v_move rfl) ?_
    refine s_val rfl (v_loadAll Try.isAgg101 Try.sizeOf101 rfl rfl) ?_
    refine s_val rfl (v_move rfl) ?_
    refine s_do rfl (d_call3 Try.call57 rfl (chWalk_spec W0 _ pv ps pm 0 fr pg hP hF ⟨0, 0, 0, N⟩ ⟨by show (0 : Nat) < _; decide, by show (0 : Nat) < _; decide, by show (0 : Nat) < _; decide⟩ head)) ?_
    rintro _ B_ ⟨a2, k2, rfl, hB_⟩
    obtain rfl := hB_.symm
    generalize (wkAll fr pg ⟨0, 0, 0, N⟩ head).1 = l at hwo hwl hW
    generalize (wkAll fr pg ⟨0, 0, 0, N⟩ head).2 = c at hW
    have hlen : l.length ≤ N := by have h9 : (l.length : Int) ≤ max (N : Int) 0 := hW.len; omega
    refine s_val rfl (v_move rfl) ?_
    refine s_val rfl (v_extract rfl rfl) ?_
    refine s_val rfl (v_extract rfl rfl) ?_
    refine s_val rfl (v_assign rfl) ?_
    refine s_val rfl (v_assign rfl) ?_
    refine x_nil ?_
    refine n_then ?_
    refine x_seq ?_
    refine x_seq ?_
    refine x_region ?_
    refine s_val rfl (v_move rfl) ?_
    refine s_do rfl (d_call1 Try.call43 rfl (viDirty_spec W0 _ pv ps pm 0 (by decide))) ?_
    rintro _ B_ ⟨a3, k3, rfl, hB_⟩
    obtain rfl := hB_.symm
    rw [show drL 0 12 = [] by decide]
    refine s_val rfl (v_len_slice Try.underlying56 rfl) ?_
    refine s_val rfl (v_neq rfl rfl) ?_
    refine s_val rfl (v_move rfl) ?_
    refine s_or rfl rfl rfl ?_ ?_
    · intro g7_5
      exact absurd rfl g7_5
    · intro g7_5
      refine s_val rfl (v_move rfl) ?_
      refine s_yes rfl rfl ?_
      refine s_val rfl (v_eql rfl rfl) ?_
      refine s_yes rfl rfl ?_
      refine s_val rfl (v_move rfl) ?_
      refine s_yes rfl rfl ?_
      refine s_val rfl (v_len_slice Try.underlying99 rfl) ?_
      refine s_yes rfl rfl ?_
      refine s_val rfl (v_gtr rfl rfl) ?_
      refine s_yes rfl rfl ?_
      refine s_val rfl (v_neq_bool Try.underlying4 rfl rfl) ?_
      refine s_val rfl (v_pick_f rfl rfl) ?_
      refine s_val rfl (v_move rfl) ?_
      refine s_or rfl rfl rfl ?_ ?_
      · intro g7_13
        exact absurd (by rw [Bool.eq_iff_iff, decide_eq_true_iff, beq_iff_eq, hW.zero]; omega) g7_13
      · intro g7_13
        refine s_val rfl (v_move rfl) ?_
        refine s_yes rfl rfl ?_
        refine s_val rfl (v_len_slice Try.underlying99 rfl) ?_
        refine s_yes rfl rfl ?_
        refine s_val rfl (v_fieldAddr rfl Try.underlying101 rfl Try.sizeOf3 rfl (by first | exact Nat.zero_add _ | rfl)) ?_
        refine s_yes rfl rfl ?_
        refine s_val rfl (v_load Try.isAgg3 rfl (cell_own rfl)) ?_
        refine s_yes rfl rfl ?_
        refine s_val rfl (v_gtr rfl rfl) ?_
        refine s_val rfl (v_pick_f rfl rfl) ?_
        refine x_nil ?_
        refine n_then ?_
        refine x_if rfl ?_ ?_
        · intro c7
          omega
        · intro c7
          refine x_skip ?_
          refine n_then ?_
          refine x_seq ?_
          refine run_form (E := 110) (sz := 4) (a := a2) (c := k2) (n := l.length) (fun hf => ?_)
          refine x_region ?_
          refine s_val rfl (v_assign rfl) ?_
          refine x_nil ?_
          refine n_then ?_
          refine x_seq ?_
          refine x_seq ?_
          refine x_region ?_
          refine s_val rfl (v_assign rfl) ?_
          refine x_nil ?_
          refine n_then ?_
          refine x_block ?_
          refine x_loop (fun i : Nat => i ≤ l.length) (fun i => [(9, .pointer (some ⟨pv, 0, none⟩)), (11, .pointer (some ⟨b1, 0, none⟩)), (12, .slice a2 l.length k2), (14, .bool (prvW l i)), (15, .int .i64 i)]) (fun i => pt b1 (cob [.int .u32 0, .int .u32 0, .int .u32 0, .int .i64 N] 101) :: osl 110 4 (.slice a2 l.length k2) (l.flatMap dsV) :: pt pv (viO ps pm 0) :: stoH ps fr :: pt pm (gmO pg) :: []) (fun i => l.length - i) 0 ?_ ?_ ?_ ?_
          · exact Nat.zero_le _
          · repeat (first | exact sub_nil | refine sub_cons rfl ?_)
          · exact inferInstance
          · intro i hi
            refine x_seq ?_
            refine x_seq ?_
            refine x_region ?_
            refine s_val rfl (v_move rfl) ?_
            refine s_val rfl (v_move rfl) ?_
            refine s_val rfl (v_len_slice Try.underlying99 rfl) ?_
            refine s_val rfl (v_lss rfl rfl) ?_
            refine x_nil ?_
            refine n_then ?_
            refine x_if rfl ?_ ?_
            · intro c11
              refine x_skip ?_
              refine n_then ?_
              refine x_seq ?_
              refine x_block ?_
              refine x_seq ?_
              have hi1 : i < l.length := by omega
              obtain ⟨g, rfl⟩ := form_some hf (by intro h0; have := congrArg List.length h0; rw [flat_len dsV_flat_len] at this; simp at this; omega)
              obtain ⟨hwn, hw64, hwf⟩ := hW.own i hi1
              have hgo : l[i].flags % 2 = 1 ↔ i + 1 < l.length := by rw [← hW.go i hi1, goB, decide_eq_true_iff]
              have hor : prvW l i = true → l[i].flags / 2 % 2 = 1 := by
                intro hp
                cases i with
                | zero => cases hp
                | succ k =>
                  have h1 := hW.ord k hi1 (by rw [prvW, List.getD_eq_getElem?_getD, List.getElem?_eq_getElem (by omega)] at hp; exact hp)
                  rw [wrB, decide_eq_true_iff] at h1; exact h1
              have hdk := hwo _ (List.getElem_mem hi1)
              have ha := hdk.addr
              have ew : Value.bool (prvW l (i + 1)) = .bool (((l[i].flags / 2 % 2 * 2 : Nat) : Int) != 0) := by
                rw [prvW, List.getD_eq_getElem?_getD, List.getElem?_eq_getElem hi1]
                refine congrArg Value.bool ?_
                rw [Option.getD_some, Bool.eq_iff_iff, bne_iff_ne, wrB, decide_eq_true_iff]; omega
              refine x_region ?_
              refine s_val rfl (v_move rfl) ?_
              refine s_val rfl (v_move rfl) ?_
              refine s_val rfl (v_idx Try.underlying99 Try.sizeOf110 rfl rfl rfl hi1 (by first | exact Nat.zero_add _ | rfl)) ?_
              refine s_val rfl (v_fieldAddr rfl Try.underlying110 rfl Try.sizeOf24 rfl (by first | exact Nat.zero_add _ | rfl)) ?_
              refine s_val rfl (v_load Try.isAgg24 rfl (cell_osl (E := 110) (sz := 4) (n := l.length) (c := k2) (dsv_get hi1 (j := 2) rfl))) ?_
              refine s_val rfl (v_and rfl rfl (and2 hdk.flags)) ?_
              refine s_val rfl (v_neq rfl rfl) ?_
              refine s_val rfl (v_assign rfl) ?_
              refine x_nil ?_
              refine n_then ?_
              refine x_seq ?_
              refine x_seq ?_
              refine x_draw [(g, 0, l.flatMap dsV)] 44 mixed rfl (sc_cons (cells_osl (E := 110) (sz := 4) (a := some ⟨g, 0, none⟩) (n := l.length) (c := k2)) sc_end) (fun hS => ?_)
              refine d_take 0 rfl rfl (by kernel_rfl) (by kernel_rfl) (by kernel_rfl) rfl hS (v_move rfl) ?_
              refine d_take 1 rfl rfl (by kernel_rfl) (by kernel_rfl) (by kernel_rfl) rfl hS (v_move rfl) ?_
              refine x_split (t := 71) rfl ?_ ?_
              · intro g14_2
                refine d_take 2 rfl rfl (by kernel_rfl) (by kernel_rfl) (by kernel_rfl) rfl hS (v_move rfl) ?_
                refine d_take 3 rfl rfl (by kernel_rfl) (by kernel_rfl) (by kernel_rfl) rfl hS (v_not rfl) ?_
                refine d_take 4 rfl rfl (by kernel_rfl) (by kernel_rfl) (by kernel_rfl) rfl hS (v_pick_t rfl rfl) ?_
                refine d_take 5 rfl rfl (by kernel_rfl) (by kernel_rfl) (by kernel_rfl) rfl hS (v_move rfl) ?_
                refine x_split (t := 75) rfl ?_ ?_
                · intro g14_6
                  have := hor g14_2; omega
                · intro g14_6
                  refine d_take 6 rfl rfl (by kernel_rfl) (by kernel_rfl) (by kernel_rfl) rfl hS (v_move rfl) ?_
                  refine d_take 7 rfl rfl (by kernel_rfl) (by kernel_rfl) (by kernel_rfl) rfl hS (v_move rfl) ?_
                  refine d_take 8 rfl rfl (by kernel_rfl) (by kernel_rfl) (by kernel_rfl) rfl hS (v_move rfl) ?_
                  refine d_take 9 rfl rfl (by kernel_rfl) (by kernel_rfl) (by kernel_rfl) rfl hS (v_idx Try.underlying99 Try.sizeOf110 rfl rfl rfl hi1 (by first | exact Nat.zero_add _ | rfl)) ?_
                  refine d_take 10 rfl rfl (by kernel_rfl) (by kernel_rfl) (by kernel_rfl) rfl hS (v_fieldAddr rfl Try.underlying110 rfl Try.sizeOf24 rfl (by first | exact Nat.zero_add _ | rfl)) ?_
                  refine d_take 11 rfl rfl (by kernel_rfl) (by kernel_rfl) (by kernel_rfl) rfl hS (v_load Try.isAgg24 rfl (cell_sc0 (k := 0) rfl (dsv_get hi1 (j := 0) rfl))) ?_
                  refine d_take 12 rfl rfl (by kernel_rfl) (by kernel_rfl) (by kernel_rfl) rfl hS (v_move rfl) ?_
                  refine d_take 13 rfl rfl (by kernel_rfl) (by kernel_rfl) (by kernel_rfl) rfl hS (v_move rfl) ?_
                  refine d_take 14 rfl rfl (by kernel_rfl) (by kernel_rfl) (by kernel_rfl) rfl hS (v_idx Try.underlying99 Try.sizeOf110 rfl rfl rfl hi1 (by first | exact Nat.zero_add _ | rfl)) ?_
                  refine d_take 15 rfl rfl (by kernel_rfl) (by kernel_rfl) (by kernel_rfl) rfl hS (v_fieldAddr rfl Try.underlying110 rfl Try.sizeOf24 rfl (by first | exact Nat.zero_add _ | rfl)) ?_
                  refine d_take 16 rfl rfl (by kernel_rfl) (by kernel_rfl) (by kernel_rfl) rfl hS (v_load Try.isAgg24 rfl (cell_sc0 (k := 0) rfl (dsv_get hi1 (j := 1) rfl))) ?_
                  refine d_take 17 rfl rfl (by kernel_rfl) (by kernel_rfl) (by kernel_rfl) rfl hS (v_conv Try.underlying24 Try.underlying3 rfl (w64 (by omega))) ?_
                  refine d_one 18 (by kernel_rfl) rfl rfl (d_call3 Try.call33 rfl (viOwn_spec W0 _ pv ps pm 0 fr pg hP l[i].addr ha l[i].len)) rfl ?_; clear hS
                  rintro _ B_ ⟨rfl, hB_⟩
                  obtain rfl := hB_.symm
                  refine ⟨(sc_cons (cells_osl (E := 110) (sz := 4) (a := some ⟨g, 0, none⟩) (n := l.length) (c := k2)) sc_end), fun hS => ?_⟩
                  refine d_take 19 rfl rfl (by kernel_rfl) (by kernel_rfl) (by kernel_rfl) rfl hS (v_not rfl) ?_
                  refine d_take 20 rfl rfl (by kernel_rfl) (by kernel_rfl) (by kernel_rfl) rfl hS (v_pick_f rfl rfl) ?_
                  refine d_take 21 rfl rfl (by kernel_rfl) (by kernel_rfl) (by kernel_rfl) rfl hS (v_move rfl) ?_
                  refine x_split (t := 91) rfl ?_ ?_
                  · intro g14_22
                    exact absurd hwn g14_22
                  · intro g14_22
                    refine d_take 22 rfl rfl (by kernel_rfl) (by kernel_rfl) (by kernel_rfl) rfl hS (v_move rfl) ?_
                    refine d_take 23 rfl rfl (by kernel_rfl) (by kernel_rfl) (by kernel_rfl) rfl hS (v_move rfl) ?_
                    refine d_take 24 rfl rfl (by kernel_rfl) (by kernel_rfl) (by kernel_rfl) rfl hS (v_idx Try.underlying99 Try.sizeOf110 rfl rfl rfl hi1 (by first | exact Nat.zero_add _ | rfl)) ?_
                    refine d_take 25 rfl rfl (by kernel_rfl) (by kernel_rfl) (by kernel_rfl) rfl hS (v_fieldAddr rfl Try.underlying110 rfl Try.sizeOf24 rfl (by first | exact Nat.zero_add _ | rfl)) ?_
                    refine d_take 26 rfl rfl (by kernel_rfl) (by kernel_rfl) (by kernel_rfl) rfl hS (v_load Try.isAgg24 rfl (cell_sc0 (k := 0) rfl (dsv_get hi1 (j := 1) rfl))) ?_
                    refine d_take 27 rfl rfl (by kernel_rfl) (by kernel_rfl) (by kernel_rfl) rfl hS (v_gtr rfl rfl) ?_
                    refine d_take 28 rfl rfl (by kernel_rfl) (by kernel_rfl) (by kernel_rfl) rfl hS (v_pick_f rfl rfl) ?_
                    refine d_take 29 rfl rfl (by kernel_rfl) (by kernel_rfl) (by kernel_rfl) rfl hS (v_move rfl) ?_
                    refine x_split (t := 99) rfl ?_ ?_
                    · intro g14_30
                      omega
                    · intro g14_30
                      refine d_take 30 rfl rfl (by kernel_rfl) (by kernel_rfl) (by kernel_rfl) rfl hS (v_move rfl) ?_
                      refine d_take 31 rfl rfl (by kernel_rfl) (by kernel_rfl) (by kernel_rfl) rfl hS (v_move rfl) ?_
                      refine d_take 32 rfl rfl (by kernel_rfl) (by kernel_rfl) (by kernel_rfl) rfl hS (v_idx Try.underlying99 Try.sizeOf110 rfl rfl rfl hi1 (by first | exact Nat.zero_add _ | rfl)) ?_
                      refine d_take 33 rfl rfl (by kernel_rfl) (by kernel_rfl) (by kernel_rfl) rfl hS (v_fieldAddr rfl Try.underlying110 rfl Try.sizeOf24 rfl (by first | exact Nat.zero_add _ | rfl)) ?_
                      refine d_take 34 rfl rfl (by kernel_rfl) (by kernel_rfl) (by kernel_rfl) rfl hS (v_load Try.isAgg24 rfl (cell_sc0 (k := 0) rfl (dsv_get hi1 (j := 2) rfl))) ?_
                      refine d_take 35 rfl rfl (by kernel_rfl) (by kernel_rfl) (by kernel_rfl) rfl hS (v_and rfl rfl (and1 hdk.flags)) ?_
                      refine d_take 36 rfl rfl (by kernel_rfl) (by kernel_rfl) (by kernel_rfl) rfl hS (v_eql rfl rfl) ?_
                      refine d_take 37 rfl rfl (by kernel_rfl) (by kernel_rfl) (by kernel_rfl) rfl hS (v_move rfl) ?_
                      refine d_take 38 rfl rfl (by kernel_rfl) (by kernel_rfl) (by kernel_rfl) rfl hS (v_move rfl) ?_
                      refine d_take 39 rfl rfl (by kernel_rfl) (by kernel_rfl) (by kernel_rfl) rfl hS (v_len_slice Try.underlying99 rfl) ?_
                      refine d_take 40 rfl rfl (by kernel_rfl) (by kernel_rfl) (by kernel_rfl) rfl hS (v_sub rfl rfl (by first | exact w64 (by omega) | rfl)) ?_
                      refine d_take 41 rfl rfl (by kernel_rfl) (by kernel_rfl) (by kernel_rfl) rfl hS (v_eql rfl rfl) ?_
                      refine d_take 42 rfl rfl (by kernel_rfl) (by kernel_rfl) (by kernel_rfl) rfl hS (v_neq_bool Try.underlying4 rfl rfl) ?_
                      refine d_take 43 rfl rfl (by kernel_rfl) (by kernel_rfl) (by kernel_rfl) rfl hS (v_pick_f rfl rfl) ?_
                      refine d_done (by kernel_rfl) ?_; clear hS
                      refine n_then ?_
                      refine x_if rfl ?_ ?_
                      · intro c14
                        exact absurd (by rw [Bool.eq_iff_iff, beq_iff_eq, beq_iff_eq]; omega) c14
                      · intro c14
                        refine x_skip ?_
                        refine n_then ?_
                        refine x_region ?_
                        refine s_val rfl (v_move rfl) ?_
                        refine s_val rfl (v_assign rfl) ?_
                        refine x_nil ?_
                        refine n_block ?_
                        refine n_then ?_
                        refine x_region ?_
                        refine s_val rfl (v_move rfl) ?_
                        refine s_val rfl (v_add rfl rfl (by first | exact w64 (by omega) | rfl)) ?_
                        refine s_val rfl (v_assign rfl) ?_
                        refine x_nil ?_
                        refine n_then ?_
                        refine inv_intro (i + 1) ?_ ?_ ?_ ?_
                        · omega
                        · omega
                        · rw [ew]; repeat (first | exact sub_nil | refine sub_cons rfl ?_)
                        · exact inferInstance
              · intro g14_2
                refine d_skip 2 rfl rfl (by kernel_rfl) (by kernel_rfl) (by kernel_rfl) rfl hS ?_
                refine d_skip 3 rfl rfl (by kernel_rfl) (by kernel_rfl) (by kernel_rfl) rfl hS ?_
                refine d_take 4 rfl rfl (by kernel_rfl) (by kernel_rfl) (by kernel_rfl) rfl hS (v_pick_f rfl rfl) ?_
                refine d_take 5 rfl rfl (by kernel_rfl) (by kernel_rfl) (by kernel_rfl) rfl hS (v_move rfl) ?_
                refine d_take 6 rfl rfl (by kernel_rfl) (by kernel_rfl) (by kernel_rfl) rfl hS (v_move rfl) ?_
                refine d_take 7 rfl rfl (by kernel_rfl) (by kernel_rfl) (by kernel_rfl) rfl hS (v_move rfl) ?_
                refine d_take 8 rfl rfl (by kernel_rfl) (by kernel_rfl) (by kernel_rfl) rfl hS (v_move rfl) ?_
                refine d_take 9 rfl rfl (by kernel_rfl) (by kernel_rfl) (by kernel_rfl) rfl hS (v_idx Try.underlying99 Try.sizeOf110 rfl rfl rfl hi1 (by first | exact Nat.zero_add _ | rfl)) ?_
                refine d_take 10 rfl rfl (by kernel_rfl) (by kernel_rfl) (by kernel_rfl) rfl hS (v_fieldAddr rfl Try.underlying110 rfl Try.sizeOf24 rfl (by first | exact Nat.zero_add _ | rfl)) ?_
                refine d_take 11 rfl rfl (by kernel_rfl) (by kernel_rfl) (by kernel_rfl) rfl hS (v_load Try.isAgg24 rfl (cell_sc0 (k := 0) rfl (dsv_get hi1 (j := 0) rfl))) ?_
                refine d_take 12 rfl rfl (by kernel_rfl) (by kernel_rfl) (by kernel_rfl) rfl hS (v_move rfl) ?_
                refine d_take 13 rfl rfl (by kernel_rfl) (by kernel_rfl) (by kernel_rfl) rfl hS (v_move rfl) ?_
                refine d_take 14 rfl rfl (by kernel_rfl) (by kernel_rfl) (by kernel_rfl) rfl hS (v_idx Try.underlying99 Try.sizeOf110 rfl rfl rfl hi1 (by first | exact Nat.zero_add _ | rfl)) ?_
                refine d_take 15 rfl rfl (by kernel_rfl) (by kernel_rfl) (by kernel_rfl) rfl hS (v_fieldAddr rfl Try.underlying110 rfl Try.sizeOf24 rfl (by first | exact Nat.zero_add _ | rfl)) ?_
                refine d_take 16 rfl rfl (by kernel_rfl) (by kernel_rfl) (by kernel_rfl) rfl hS (v_load Try.isAgg24 rfl (cell_sc0 (k := 0) rfl (dsv_get hi1 (j := 1) rfl))) ?_
                refine d_take 17 rfl rfl (by kernel_rfl) (by kernel_rfl) (by kernel_rfl) rfl hS (v_conv Try.underlying24 Try.underlying3 rfl (w64 (by omega))) ?_
                refine d_one 18 (by kernel_rfl) rfl rfl (d_call3 Try.call33 rfl (viOwn_spec W0 _ pv ps pm 0 fr pg hP l[i].addr ha l[i].len)) rfl ?_; clear hS
                rintro _ B_ ⟨rfl, hB_⟩
                obtain rfl := hB_.symm
                refine ⟨(sc_cons (cells_osl (E := 110) (sz := 4) (a := some ⟨g, 0, none⟩) (n := l.length) (c := k2)) sc_end), fun hS => ?_⟩
                refine d_take 19 rfl rfl (by kernel_rfl) (by kernel_rfl) (by kernel_rfl) rfl hS (v_not rfl) ?_
                refine d_take 20 rfl rfl (by kernel_rfl) (by kernel_rfl) (by kernel_rfl) rfl hS (v_pick_f rfl rfl) ?_
                refine d_take 21 rfl rfl (by kernel_rfl) (by kernel_rfl) (by kernel_rfl) rfl hS (v_move rfl) ?_
                refine x_split (t := 91) rfl ?_ ?_
                · intro g14_22
                  exact absurd hwn g14_22
                · intro g14_22
                  refine d_take 22 rfl rfl (by kernel_rfl) (by kernel_rfl) (by kernel_rfl) rfl hS (v_move rfl) ?_
                  refine d_take 23 rfl rfl (by kernel_rfl) (by kernel_rfl) (by kernel_rfl) rfl hS (v_move rfl) ?_
                  refine d_take 24 rfl rfl (by kernel_rfl) (by kernel_rfl) (by kernel_rfl) rfl hS (v_idx Try.underlying99 Try.sizeOf110 rfl rfl rfl hi1 (by first | exact Nat.zero_add _ | rfl)) ?_
                  refine d_take 25 rfl rfl (by kernel_rfl) (by kernel_rfl) (by kernel_rfl) rfl hS (v_fieldAddr rfl Try.underlying110 rfl Try.sizeOf24 rfl (by first | exact Nat.zero_add _ | rfl)) ?_
                  refine d_take 26 rfl rfl (by kernel_rfl) (by kernel_rfl) (by kernel_rfl) rfl hS (v_load Try.isAgg24 rfl (cell_sc0 (k := 0) rfl (dsv_get hi1 (j := 1) rfl))) ?_
                  refine d_take 27 rfl rfl (by kernel_rfl) (by kernel_rfl) (by kernel_rfl) rfl hS (v_gtr rfl rfl) ?_
                  refine d_take 28 rfl rfl (by kernel_rfl) (by kernel_rfl) (by kernel_rfl) rfl hS (v_pick_f rfl rfl) ?_
                  refine d_take 29 rfl rfl (by kernel_rfl) (by kernel_rfl) (by kernel_rfl) rfl hS (v_move rfl) ?_
                  refine x_split (t := 99) rfl ?_ ?_
                  · intro g14_30
                    omega
                  · intro g14_30
                    refine d_take 30 rfl rfl (by kernel_rfl) (by kernel_rfl) (by kernel_rfl) rfl hS (v_move rfl) ?_
                    refine d_take 31 rfl rfl (by kernel_rfl) (by kernel_rfl) (by kernel_rfl) rfl hS (v_move rfl) ?_
                    refine d_take 32 rfl rfl (by kernel_rfl) (by kernel_rfl) (by kernel_rfl) rfl hS (v_idx Try.underlying99 Try.sizeOf110 rfl rfl rfl hi1 (by first | exact Nat.zero_add _ | rfl)) ?_
                    refine d_take 33 rfl rfl (by kernel_rfl) (by kernel_rfl) (by kernel_rfl) rfl hS (v_fieldAddr rfl Try.underlying110 rfl Try.sizeOf24 rfl (by first | exact Nat.zero_add _ | rfl)) ?_
                    refine d_take 34 rfl rfl (by kernel_rfl) (by kernel_rfl) (by kernel_rfl) rfl hS (v_load Try.isAgg24 rfl (cell_sc0 (k := 0) rfl (dsv_get hi1 (j := 2) rfl))) ?_
                    refine d_take 35 rfl rfl (by kernel_rfl) (by kernel_rfl) (by kernel_rfl) rfl hS (v_and rfl rfl (and1 hdk.flags)) ?_
                    refine d_take 36 rfl rfl (by kernel_rfl) (by kernel_rfl) (by kernel_rfl) rfl hS (v_eql rfl rfl) ?_
                    refine d_take 37 rfl rfl (by kernel_rfl) (by kernel_rfl) (by kernel_rfl) rfl hS (v_move rfl) ?_
                    refine d_take 38 rfl rfl (by kernel_rfl) (by kernel_rfl) (by kernel_rfl) rfl hS (v_move rfl) ?_
                    refine d_take 39 rfl rfl (by kernel_rfl) (by kernel_rfl) (by kernel_rfl) rfl hS (v_len_slice Try.underlying99 rfl) ?_
                    refine d_take 40 rfl rfl (by kernel_rfl) (by kernel_rfl) (by kernel_rfl) rfl hS (v_sub rfl rfl (by first | exact w64 (by omega) | rfl)) ?_
                    refine d_take 41 rfl rfl (by kernel_rfl) (by kernel_rfl) (by kernel_rfl) rfl hS (v_eql rfl rfl) ?_
                    refine d_take 42 rfl rfl (by kernel_rfl) (by kernel_rfl) (by kernel_rfl) rfl hS (v_neq_bool Try.underlying4 rfl rfl) ?_
                    refine d_take 43 rfl rfl (by kernel_rfl) (by kernel_rfl) (by kernel_rfl) rfl hS (v_pick_f rfl rfl) ?_
                    refine d_done (by kernel_rfl) ?_; clear hS
                    refine n_then ?_
                    refine x_if rfl ?_ ?_
                    · intro c14
                      exact absurd (by rw [Bool.eq_iff_iff, beq_iff_eq, beq_iff_eq]; omega) c14
                    · intro c14
                      refine x_skip ?_
                      refine n_then ?_
                      refine x_region ?_
                      refine s_val rfl (v_move rfl) ?_
                      refine s_val rfl (v_assign rfl) ?_
                      refine x_nil ?_
                      refine n_block ?_
                      refine n_then ?_
                      refine x_region ?_
                      refine s_val rfl (v_move rfl) ?_
                      refine s_val rfl (v_add rfl rfl (by first | exact w64 (by omega) | rfl)) ?_
                      refine s_val rfl (v_assign rfl) ?_
                      refine x_nil ?_
                      refine n_then ?_
                      refine inv_intro (i + 1) ?_ ?_ ?_ ?_
                      · omega
                      · omega
                      · rw [ew]; repeat (first | exact sub_nil | refine sub_cons rfl ?_)
                      · exact inferInstance
            · intro c11
              refine x_exit ?_
              refine e_then ?_
              refine e_then ?_
              refine e_block ?_
              refine n_then ?_
              refine x_seq ?_
              have hs := len_sum (fun i hi => (hW.own i hi).2.1)
              have hs1 := lenW_le hwo true
              have hs2 := lenW_le hwo false
              refine x_draw [(b1, 0, _)] 13 mixed rfl (sc_own sc_end) (fun hS => ?_)
              refine d_take 0 rfl rfl (by kernel_rfl) (by kernel_rfl) (by kernel_rfl) rfl hS (v_move rfl) ?_
              refine d_take 2 rfl rfl (by kernel_rfl) (by kernel_rfl) (by kernel_rfl) rfl hS (v_move rfl) ?_
              refine d_take 5 rfl rfl (by kernel_rfl) (by kernel_rfl) (by kernel_rfl) rfl hS (v_fieldAddr rfl Try.underlying101 rfl Try.sizeOf3 rfl (by first | exact Nat.zero_add _ | rfl)) ?_
              refine d_take 6 rfl rfl (by kernel_rfl) (by kernel_rfl) (by kernel_rfl) rfl hS (v_load Try.isAgg3 rfl (cell_sc0 (k := 0) rfl rfl)) ?_
              refine d_take 7 rfl rfl (by kernel_rfl) (by kernel_rfl) (by kernel_rfl) rfl hS (v_mul rfl rfl (w64 (by omega))) ?_
              refine d_one 1 (by kernel_rfl) rfl rfl (d_call1 Try.call60 rfl (chLen_spec W0 _ a2 k2 l true hwo (by omega))) rfl ?_; clear hS
              rintro _ B_ ⟨rfl, hB_⟩
              obtain rfl := hB_.symm
              refine ⟨(sc_own sc_end), fun hS => ?_⟩
              refine d_one 3 (by kernel_rfl) rfl rfl (d_call1 Try.call60 rfl (chLen_spec W0 _ a2 k2 l false hwo (by omega))) rfl ?_; clear hS
              rintro _ B_ ⟨rfl, hB_⟩
              obtain rfl := hB_.symm
              refine ⟨(sc_own sc_end), fun hS => ?_⟩
              refine d_take 4 rfl rfl (by kernel_rfl) (by kernel_rfl) (by kernel_rfl) rfl hS (v_add rfl rfl (w64 (by omega))) ?_
              refine d_take 8 rfl rfl (by kernel_rfl) (by kernel_rfl) (by kernel_rfl) rfl hS (v_leq rfl rfl) ?_
              refine d_take 9 rfl rfl (by kernel_rfl) (by kernel_rfl) (by kernel_rfl) rfl hS (v_move rfl) ?_
              refine x_split (t := 124) rfl ?_ ?_
              · intro g17_10
                refine d_one 10 (by kernel_rfl) rfl rfl (d_call Try.call62 rfl (awake22_spec W0 _)) rfl ?_; clear hS
                rintro _ B_ ⟨rfl, hB_⟩
                obtain rfl := hB_.symm
                refine ⟨(sc_own sc_end), fun hS => ?_⟩
                refine d_take 11 rfl rfl (by kernel_rfl) (by kernel_rfl) (by kernel_rfl) rfl hS (v_pick_t rfl rfl) ?_
                refine d_take 12 rfl rfl (by kernel_rfl) (by kernel_rfl) (by kernel_rfl) rfl hS (v_assign rfl) ?_
                refine d_done (by kernel_rfl) ?_; clear hS
                refine n_then ?_
                refine x_ret ?_
                refine x_done (.inl rfl) (.cons (r_tmp rfl) .nil) ?_
                exact ⟨_, ⟨rfl, rfl⟩, inferInstance⟩
              · intro g17_10
                omega
end Go.Proofs.Ytpmacnfjafpdcaa
