/-
  Part 6 of the proof of MmuHolds: rules, and walks of functions. Conditions: none.
-/
import Derived.Test.YtllkdnadmmjehaaGreatDoorMmuHoldsE
namespace Go.Proofs.YtllkdnadmmjehaaGreatDoor
open Go.RowKit
set_option linter.unusedSimpArgs false
set_option linter.unusedVariables false
set_option maxRecDepth 20000
theorem fnd_thW {n : Nat} {pg : List Pl} {pa : Nat} {w kind : Int} (h : fndE n pg pa w kind = 0) : thereB pg ((pa / 64 : Nat) : Int) = true := by
  unfold fndE at h
  split at h
  · split at h
    · split at h
      · rename_i q
        unfold alwE at q
        split at q
        · assumption
        · exact absurd q (by decide)
      · rename_i q; exact absurd h q
    · exact absurd h (by decide)
  · exact absurd h (by decide)
theorem MOk.vsv {fr : List Frm} {pg : List Pl} {d : Nat} {L : List Ln} {T : List It} (h : MOk fr pg d L T) (pa : Nat) (w : Int) (x : Nat) : MOk (vsvF fr pg pa w x) pg (vsvD fr pg pa w d) L T := by
  by_cases hf : fndE fr.length pg pa w 2 = 0
  · have hpl : pa / 64 < 12 := by have := (fnd_ok hf).1; omega
    have hdl : d ||| 2 ^ (pa / 64) < 4096 := Nat.or_lt_two_pow (n := 12) h.dl (page_lt hpl)
    rw [vsvF, if_pos hf, vsvD, if_pos hf]
    exact h.save (fnd_thW hf) ((pa % 64 : Nat) : Int) w x hdl (fun t q => (or_bit q).1) (fun y hy t ht hb e => by
      have h1 := (h.ln y hy).own
      have h3 := (or_bit hb).2
      rcases ht with rfl | rfl <;> omega)
  · rw [vsvF, if_neg hf, vsvD, if_neg hf]; exact h
theorem mmDo_spec (W0 : World) (hK : ∀ A, Cells (OwnP W0 A) 0 0 kdV) (bm bt bs pv ps pm qv qs qm room e d now : Nat) (its T : List It) (L : List Ln) (fr : List Frm) (pg : List Pl) (a : Ac) (ha : AcOk a) (hR : Rep its now T) (hT : T.length ≤ room) (hr : room ≤ 4) (hn : now < 900000) (h : MOk fr pg d L T) (R : List HP) :
    Spec Tryz.prog W0 12 [.pointer (some ⟨bm, 0, none⟩), .pointer (some ⟨pv, 0, none⟩), .pointer (some ⟨qv, 0, none⟩), .agg (acV a).toArray] (pt bm (mmO pv bt bs) :: rowH bt (its, tlV room now) :: shH bs L :: vwW pv ps pm d fr pg (rvwW qv qs qm e fr pg R))
      (fun v B => v = .bool true ∧ ∃ e' d' now' its' T' L' fr' pg', Rep its' now' T' ∧ T'.length ≤ room ∧ MOk fr' pg' d' L' T' ∧ now' ≤ now + 3 ∧ B = pt bm (mmO pv bt bs) :: rowH bt (its', tlV room now') :: shH bs L' :: vwW pv ps pm d' fr' pg' (rvwW qv qs qm e' fr' pg' R)) := by
  obtain ⟨ha1, ha2⟩ := ha
  refine spec_body Tryz.func12 Tryz.ntmps12 rfl rfl ?_
  refine x_seq (x_region (s_do rfl (d_boxA rfl) ?_))
  rintro _ _ ⟨bx, rfl, rfl⟩
  refine s_val rfl (v_assign rfl) (x_nil (n_then (x_seq (x_region ?_))))
  refine s_val rfl (v_fieldAddr rfl Tryz.underlying33 rfl Tryz.sizeOf31 rfl (by first | exact Nat.zero_add _ | rfl)) ?_
  refine s_val rfl (v_load Tryz.isAgg31 rfl (cell_own rfl)) ?_
  refine s_val rfl (v_quo rfl rfl (by decide) ((congrArg (IntKind.wrap .u32) (tdivN a.va 64)).trans (w32u (by omega)))) ?_
  refine s_val rfl (v_rem rfl rfl (by decide) (tmodN (a.va / 64) 12)) ?_
  refine s_val rfl (v_conv Tryz.underlying31 Tryz.underlying3 rfl (w64 (by omega))) ?_
  refine s_val rfl (v_assign rfl) (x_nil (n_then (x_seq (x_seq ?_))))
  obtain ⟨n, hpn⟩ : ∃ n : Nat, a.va / 64 % 12 = n := ⟨_, rfl⟩
  have hn12 : n < 12 := by omega
  rw [hpn]
  refine x_region ?_
  refine s_val rfl (v_fieldAddr rfl Tryz.underlying33 rfl Tryz.sizeOf3 rfl (by first | exact Nat.zero_add _ | rfl)) ?_
  refine s_val rfl (v_load Tryz.isAgg3 rfl (cell_own rfl)) ?_
  refine x_nil (n_then (x_block (x_seq (x_region (s_val rfl (v_eql rfl rfl) (s_val rfl (v_assign rfl) (x_nil (n_then ?_))))))))
  refine x_if rfl ?_ ?_
  · intro c3
    refine x_seq ?_
    refine x_draw [(bx, 0, _)] 22 mixed rfl (sc_own sc_end) (fun hS => ?_)
    refine d_take 0 rfl rfl (by kernel_rfl) (by kernel_rfl) (by kernel_rfl) rfl hS (v_move rfl) ?_
    refine d_take 1 rfl rfl (by kernel_rfl) (by kernel_rfl) (by kernel_rfl) rfl hS (v_fieldAddr rfl Tryz.underlying33 rfl Tryz.sizeOf30 rfl (by first | exact Nat.zero_add _ | rfl)) ?_
    refine d_take 2 rfl rfl (by kernel_rfl) (by kernel_rfl) (by kernel_rfl) rfl hS (v_loadAgg Tryz.isAgg30 Tryz.sizeOf30 rfl (cells_mid (k := 1) (us := moV a.on a.root a.user) (cells_sc (k := 0) rfl) rfl) rfl) ?_
    refine d_take 3 rfl rfl (by kernel_rfl) (by kernel_rfl) (by kernel_rfl) rfl hS (v_fieldAddr rfl Tryz.underlying33 rfl Tryz.sizeOf31 rfl (by first | exact Nat.zero_add _ | rfl)) ?_
    refine d_take 4 rfl rfl (by kernel_rfl) (by kernel_rfl) (by kernel_rfl) rfl hS (v_load Tryz.isAgg31 rfl (cell_sc0 (k := 0) rfl rfl)) ?_
    refine d_take 5 rfl rfl (by kernel_rfl) (by kernel_rfl) (by kernel_rfl) rfl hS (v_fieldAddr rfl Tryz.underlying33 rfl Tryz.sizeOf3 rfl (by first | exact Nat.zero_add _ | rfl)) ?_
    refine d_take 6 rfl rfl (by kernel_rfl) (by kernel_rfl) (by kernel_rfl) rfl hS (v_load Tryz.isAgg3 rfl (cell_sc0 (k := 0) rfl rfl)) ?_
    refine d_take 7 rfl rfl (by kernel_rfl) (by kernel_rfl) (by kernel_rfl) rfl hS (v_fieldAddr rfl Tryz.underlying33 rfl Tryz.sizeOf31 rfl (by first | exact Nat.zero_add _ | rfl)) ?_
    refine d_take 8 rfl rfl (by kernel_rfl) (by kernel_rfl) (by kernel_rfl) rfl hS (v_load Tryz.isAgg31 rfl (cell_sc0 (k := 0) rfl rfl)) ?_
    refine d_take 10 rfl rfl (by kernel_rfl) (by kernel_rfl) (by kernel_rfl) rfl hS (v_move rfl) ?_
    refine d_take 11 rfl rfl (by kernel_rfl) (by kernel_rfl) (by kernel_rfl) rfl hS (v_fieldAddr rfl Tryz.underlying33 rfl Tryz.sizeOf30 rfl (by first | exact Nat.zero_add _ | rfl)) ?_
    refine d_take 12 rfl rfl (by kernel_rfl) (by kernel_rfl) (by kernel_rfl) rfl hS (v_loadAgg Tryz.isAgg30 Tryz.sizeOf30 rfl (cells_mid (k := 1) (us := moV a.on a.root a.user) (cells_sc (k := 0) rfl) rfl) rfl) ?_
    refine d_take 13 rfl rfl (by kernel_rfl) (by kernel_rfl) (by kernel_rfl) rfl hS (v_fieldAddr rfl Tryz.underlying33 rfl Tryz.sizeOf31 rfl (by first | exact Nat.zero_add _ | rfl)) ?_
    refine d_take 14 rfl rfl (by kernel_rfl) (by kernel_rfl) (by kernel_rfl) rfl hS (v_load Tryz.isAgg31 rfl (cell_sc0 (k := 0) rfl rfl)) ?_
    refine d_take 15 rfl rfl (by kernel_rfl) (by kernel_rfl) (by kernel_rfl) rfl hS (v_fieldAddr rfl Tryz.underlying33 rfl Tryz.sizeOf3 rfl (by first | exact Nat.zero_add _ | rfl)) ?_
    refine d_take 16 rfl rfl (by kernel_rfl) (by kernel_rfl) (by kernel_rfl) rfl hS (v_load Tryz.isAgg3 rfl (cell_sc0 (k := 0) rfl rfl)) ?_
    refine d_take 17 rfl rfl (by kernel_rfl) (by kernel_rfl) (by kernel_rfl) rfl hS (v_fieldAddr rfl Tryz.underlying33 rfl Tryz.sizeOf31 rfl (by first | exact Nat.zero_add _ | rfl)) ?_
    refine d_take 18 rfl rfl (by kernel_rfl) (by kernel_rfl) (by kernel_rfl) rfl hS (v_load Tryz.isAgg31 rfl (cell_sc0 (k := 0) rfl rfl)) ?_
    refine d_one 9 (by kernel_rfl) rfl rfl (d_call6 Tryz.call7 rfl (mmSave_spec W0 _ hK bm pv bt bs ps pm d a.on a.root a.user a.va ha1 a.width a.w ha2 its room now T L fr pg hR hT hr hn h)) rfl ?_; clear hS
    rintro _ B_ ⟨rfl, its2, T2, L2, now2, d2, hR2, hT2, h2, hn2, hB_⟩
    subst hB_
    refine ⟨(sc_own sc_end), fun hS => ?_⟩
    refine d_one 19 (by kernel_rfl) rfl rfl (d_call3 Tryz.call8 rfl (r20Save_spec W0 _ qv qs qm e fr pg h.P h.F a.on a.root a.user a.va ha1 a.width a.w ha2)) rfl ?_; clear hS
    rintro _ B_ ⟨rfl, hB_⟩
    obtain rfl := hB_.symm
    refine ⟨(sc_own sc_end), fun hS => ?_⟩
    refine d_take 20 rfl rfl (by kernel_rfl) (by kernel_rfl) (by kernel_rfl) rfl hS (v_eql rfl rfl) ?_
    refine d_take 21 rfl rfl (by kernel_rfl) (by kernel_rfl) (by kernel_rfl) rfl hS (v_assign rfl) ?_
    refine d_done (by kernel_rfl) ?_; clear hS
    refine n_then (x_ret (r_block (r_then (x_done (.inl rfl) (.cons (r_tmp rfl) .nil) ?_))))
    exact ⟨_, ⟨by simp; rfl, e, d2, now2, its2, T2, L2, _, pg, hR2, hT2, h2, hn2, rfl⟩, inferInstance⟩
  · intro c3
    refine x_seq (x_region (s_val rfl (v_eql rfl rfl) (s_val rfl (v_assign rfl) (x_nil (n_then ?_)))))
    refine x_if rfl ?_ ?_
    · intro c5
      refine x_seq ?_
      refine x_draw [(bx, 0, _)] 18 mixed rfl (sc_own sc_end) (fun hS => ?_)
      refine d_take 0 rfl rfl (by kernel_rfl) (by kernel_rfl) (by kernel_rfl) rfl hS (v_move rfl) ?_
      refine d_take 1 rfl rfl (by kernel_rfl) (by kernel_rfl) (by kernel_rfl) rfl hS (v_fieldAddr rfl Tryz.underlying33 rfl Tryz.sizeOf31 rfl (by first | exact Nat.zero_add _ | rfl)) ?_
      refine d_take 2 rfl rfl (by kernel_rfl) (by kernel_rfl) (by kernel_rfl) rfl hS (v_load Tryz.isAgg31 rfl (cell_sc0 (k := 0) rfl rfl)) ?_
      refine d_take 3 rfl rfl (by kernel_rfl) (by kernel_rfl) (by kernel_rfl) rfl hS (v_fieldAddr rfl Tryz.underlying33 rfl Tryz.sizeOf3 rfl (by first | exact Nat.zero_add _ | rfl)) ?_
      refine d_take 4 rfl rfl (by kernel_rfl) (by kernel_rfl) (by kernel_rfl) rfl hS (v_load Tryz.isAgg3 rfl (cell_sc0 (k := 0) rfl rfl)) ?_
      refine d_take 5 rfl rfl (by kernel_rfl) (by kernel_rfl) (by kernel_rfl) rfl hS (v_fieldAddr rfl Tryz.underlying33 rfl Tryz.sizeOf31 rfl (by first | exact Nat.zero_add _ | rfl)) ?_
      refine d_take 6 rfl rfl (by kernel_rfl) (by kernel_rfl) (by kernel_rfl) rfl hS (v_load Tryz.isAgg31 rfl (cell_sc0 (k := 0) rfl rfl)) ?_
      refine d_take 8 rfl rfl (by kernel_rfl) (by kernel_rfl) (by kernel_rfl) rfl hS (v_move rfl) ?_
      refine d_take 9 rfl rfl (by kernel_rfl) (by kernel_rfl) (by kernel_rfl) rfl hS (v_fieldAddr rfl Tryz.underlying33 rfl Tryz.sizeOf31 rfl (by first | exact Nat.zero_add _ | rfl)) ?_
      refine d_take 10 rfl rfl (by kernel_rfl) (by kernel_rfl) (by kernel_rfl) rfl hS (v_load Tryz.isAgg31 rfl (cell_sc0 (k := 0) rfl rfl)) ?_
      refine d_take 11 rfl rfl (by kernel_rfl) (by kernel_rfl) (by kernel_rfl) rfl hS (v_fieldAddr rfl Tryz.underlying33 rfl Tryz.sizeOf3 rfl (by first | exact Nat.zero_add _ | rfl)) ?_
      refine d_take 12 rfl rfl (by kernel_rfl) (by kernel_rfl) (by kernel_rfl) rfl hS (v_load Tryz.isAgg3 rfl (cell_sc0 (k := 0) rfl rfl)) ?_
      refine d_take 13 rfl rfl (by kernel_rfl) (by kernel_rfl) (by kernel_rfl) rfl hS (v_fieldAddr rfl Tryz.underlying33 rfl Tryz.sizeOf31 rfl (by first | exact Nat.zero_add _ | rfl)) ?_
      refine d_take 14 rfl rfl (by kernel_rfl) (by kernel_rfl) (by kernel_rfl) rfl hS (v_load Tryz.isAgg31 rfl (cell_sc0 (k := 0) rfl rfl)) ?_
      refine d_one 7 (by kernel_rfl) rfl rfl (d_call3 Tryz.call28 rfl (viSave_spec W0 _ pv ps pm d fr pg h.P h.F h.dl a.va ha1 a.width a.w ha2)) rfl ?_; clear hS
      rintro _ B_ ⟨rfl, hB_⟩
      obtain rfl := hB_.symm
      refine ⟨(sc_own sc_end), fun hS => ?_⟩
      refine d_one 15 (by kernel_rfl) rfl rfl (d_call3 Tryz.call29 rfl (rvSave_spec W0 _ qv qs qm e fr pg h.P h.F a.va ha1 a.width a.w ha2)) rfl ?_; clear hS
      rintro _ B_ ⟨rfl, hB_⟩
      obtain rfl := hB_.symm
      refine ⟨(sc_own sc_end), fun hS => ?_⟩
      refine d_take 16 rfl rfl (by kernel_rfl) (by kernel_rfl) (by kernel_rfl) rfl hS (v_eql rfl rfl) ?_
      refine d_take 17 rfl rfl (by kernel_rfl) (by kernel_rfl) (by kernel_rfl) rfl hS (v_assign rfl) ?_
      refine d_done (by kernel_rfl) ?_; clear hS
      refine n_then (x_ret (r_block (r_then (x_done (.inl rfl) (.cons (r_tmp rfl) .nil) ?_))))
      exact ⟨_, ⟨by simp; rfl, vsvD fr pg a.va a.width e, vsvD fr pg a.va a.width d, now, its, T, L, vsvF fr pg a.va a.width a.w, pg, hR, hT, h.vsv a.va a.width a.w, by omega, rfl⟩, inferInstance⟩
    · intro c5
      refine x_seq (x_region (s_val rfl (v_eql rfl rfl) (s_val rfl (v_assign rfl) (x_nil (n_then ?_)))))
      refine x_if rfl ?_ ?_
      · intro c7
        refine x_seq (x_region (s_val rfl (v_move rfl) (s_do rfl (d_call1 Tryz.call18 rfl (viMap_spec W0 _ pv ps pm d)) ?_)))
        rintro _ B_ ⟨rfl, hB_⟩
        obtain rfl := hB_.symm
        refine s_val rfl (v_move rfl) (s_do rfl (d_call1 Tryz.call37 rfl (gmDropA_spec W0 _ pm pg h.P n)) ?_)
        rintro _ B_ ⟨rfl, hB_⟩
        obtain rfl := hB_.symm
        refine s_val rfl (v_assign rfl) (x_nil (n_then (x_seq (x_region (s_val rfl (v_move rfl) (s_val rfl (v_move rfl) (s_val rfl (v_nilCheck rfl) ?_)))))))
        refine s_val rfl (v_fieldAddr rfl Tryz.underlying43 rfl Tryz.sizeOf40 rfl (by first | exact Nat.zero_add _ | rfl)) ?_
        refine s_val rfl (v_load Tryz.isAgg40 rfl (cell_own rfl)) ?_
        refine s_val rfl (v_move rfl) (s_do rfl (d_call1 Tryz.call38 rfl (rgDrop_spec W0 _ qm pg h.P n)) ?_)
        rintro _ B_ ⟨rfl, hB_⟩
        obtain rfl := hB_.symm
        refine s_val rfl (v_eql rfl rfl) (s_val rfl (v_move rfl) ?_)
        refine s_and rfl rfl rfl ?_ ?_
        · intro g9_9
          refine s_val rfl (v_move rfl) (s_yes rfl rfl (s_val rfl (v_move rfl) (s_yes rfl rfl (s_do rfl (d_call4 Tryz.call39 rfl (mmGone_spec W0 _ bm pv bt bs ps pm d its room now T L fr pg hR hT hr n h)) ?_))))
          rintro _ B_ ⟨rfl, its2, T2, L2, hB_, hR2, hT2, h2⟩
          subst hB_
          refine s_yes rfl rfl (s_val rfl (v_eql rfl rfl) (s_val rfl (v_pick_t rfl rfl) (s_val rfl (v_assign rfl) (x_nil (n_then (x_ret (r_block (r_then (x_done (.inl rfl) (.cons (r_tmp rfl) .nil) ?_)))))))))
          exact ⟨_, ⟨by simp; rfl, e, 0, now, its2, T2, L2, fr, _, hR2, hT2, h2, by omega, rfl⟩, inferInstance⟩
        · intro g9_9
          exact absurd rfl g9_9
      · intro c7
        refine x_seq (x_region (s_val rfl (v_eql rfl rfl) (s_val rfl (v_assign rfl) (x_nil (n_then ?_)))))
        refine x_if rfl ?_ ?_
        · intro c10
          refine x_seq ?_
          refine x_draw [(qv, 0, _)] 16 mixed rfl (sc_own sc_end) (fun hS => ?_)
          refine d_take 0 rfl rfl (by kernel_rfl) (by kernel_rfl) (by kernel_rfl) rfl hS (v_move rfl) ?_
          refine d_take 2 rfl rfl (by kernel_rfl) (by kernel_rfl) (by kernel_rfl) rfl hS (v_move rfl) ?_
          refine d_take 3 rfl rfl (by kernel_rfl) (by kernel_rfl) (by kernel_rfl) rfl hS (v_move rfl) ?_
          refine d_take 6 rfl rfl (by kernel_rfl) (by kernel_rfl) (by kernel_rfl) rfl hS (v_move rfl) ?_
          refine d_take 7 rfl rfl (by kernel_rfl) (by kernel_rfl) (by kernel_rfl) rfl hS (v_nilCheck rfl) ?_
          refine d_take 8 rfl rfl (by kernel_rfl) (by kernel_rfl) (by kernel_rfl) rfl hS (v_fieldAddr rfl Tryz.underlying43 rfl Tryz.sizeOf40 rfl (by first | exact Nat.zero_add _ | rfl)) ?_
          refine d_take 9 rfl rfl (by kernel_rfl) (by kernel_rfl) (by kernel_rfl) rfl hS (v_load Tryz.isAgg40 rfl (cell_sc0 (k := 0) rfl rfl)) ?_
          refine d_take 10 rfl rfl (by kernel_rfl) (by kernel_rfl) (by kernel_rfl) rfl hS (v_move rfl) ?_
          refine d_take 11 rfl rfl (by kernel_rfl) (by kernel_rfl) (by kernel_rfl) rfl hS (v_move rfl) ?_
          refine d_one 1 (by kernel_rfl) rfl rfl (d_call1 Tryz.call18 rfl (viMap_spec W0 _ pv ps pm d)) rfl ?_; clear hS
          rintro _ B_ ⟨rfl, hB_⟩
          obtain rfl := hB_.symm
          refine ⟨(sc_own sc_end), fun hS => ?_⟩
          refine d_one 4 (by kernel_rfl) rfl rfl (d_call Tryz.call25 rfl (place20_spec W0 _ n hn12)) rfl ?_; clear hS
          rintro _ B_ ⟨rfl, hB_⟩
          obtain rfl := hB_.symm
          refine ⟨(sc_own sc_end), fun hS => ?_⟩
          refine d_one 5 (by kernel_rfl) rfl rfl (d_call1 Tryz.call24 rfl (gmSet_spec W0 _ pm pg h.P n (pl20 n))) rfl ?_; clear hS
          rintro _ B_ ⟨rfl, hB_⟩
          obtain rfl := hB_.symm
          refine ⟨(sc_own sc_end), fun hS => ?_⟩
          refine d_one 12 (by kernel_rfl) rfl rfl (d_call Tryz.call25 rfl (place20_spec W0 _ n hn12)) rfl ?_; clear hS
          rintro _ B_ ⟨rfl, hB_⟩
          obtain rfl := hB_.symm
          refine ⟨(sc_own sc_end), fun hS => ?_⟩
          refine d_one 13 (by kernel_rfl) rfl rfl (d_call1 Tryz.call26 rfl (rgSet_spec W0 _ qm pg h.P n (pl20 n))) rfl ?_; clear hS
          rintro _ B_ ⟨rfl, hB_⟩
          obtain rfl := hB_.symm
          refine ⟨(sc_own sc_end), fun hS => ?_⟩
          refine d_take 14 rfl rfl (by kernel_rfl) (by kernel_rfl) (by kernel_rfl) rfl hS (v_eql rfl rfl) ?_
          refine d_take 15 rfl rfl (by kernel_rfl) (by kernel_rfl) (by kernel_rfl) rfl hS (v_assign rfl) ?_
          refine d_done (by kernel_rfl) ?_; clear hS
          refine n_then (x_ret (r_block (r_then (x_done (.inl rfl) (.cons (r_tmp rfl) .nil) ?_))))
          exact ⟨_, ⟨by simp; rfl, e, d, now, its, T, L, fr, _, hR, hT, h.come (n := n), by omega, rfl⟩, inferInstance⟩
        · intro c10
          refine x_seq (x_region (s_val rfl (v_eql rfl rfl) (s_val rfl (v_assign rfl) (x_nil (n_then ?_)))))
          refine x_if rfl ?_ ?_
          · intro c12
            refine x_region (s_val rfl (v_move rfl) (s_do rfl (d_call4 Tryz.call40 rfl (mmFlush_spec W0 _ bm pv bt bs ps pm d its room now T L fr pg hR hT hr h)) ?_))
            rintro _ B_ ⟨k2, its2, rfl, hB_, hR2, h2⟩
            subst hB_
            refine x_nil (n_block (n_then (x_seq (x_region (s_val rfl (v_assign rfl) (x_nil (n_then (x_ret (x_done (.inl rfl) (.cons (r_tmp rfl) .nil) ?_)))))))))
            exact ⟨_, ⟨rfl, e, 0, now, its2, [], [], fr, pg, hR2, Nat.zero_le _, h2, by omega, rfl⟩, inferInstance⟩
          · intro c12
            refine x_skip (n_block (n_then (x_seq (x_region (s_val rfl (v_assign rfl) (x_nil (n_then (x_ret (x_done (.inl rfl) (.cons (r_tmp rfl) .nil) ?_)))))))))
            exact ⟨_, ⟨rfl, e, d, now, its, T, L, fr, pg, hR, hT, h, by omega, rfl⟩, inferInstance⟩
end Go.Proofs.YtllkdnadmmjehaaGreatDoor
namespace Go.Proofs.YtllkdnadmmjehaaGreatDoor
open Go.RowKit
set_option linter.unusedSimpArgs false
set_option linter.unusedVariables false
set_option maxRecDepth 20000
section
variable {P : Program} {W0 : World} {A R : List HP} {sz : Nat}
theorem spec_frm {E : TypeId} {m : Nat} {ys : List Value} {f : FuncId} {args : List Value} (h : Spec P W0 f args A (fun v B => ∃ a c, v = .slice a m c ∧ B = osl E sz (.slice a m c) ys :: R)) :
    Spec P W0 f args A (fun v B => ∃ a c, v = .slice a m c ∧ Frm0 a ys ∧ B = osl E sz (.slice a m c) ys :: R) := fun w hO =>
  (h w hO).mono fun e w' ⟨v, B, h1, ⟨a, c, h2, h3⟩, h4⟩ => by
    refine ⟨v, B, h1, ⟨a, c, h2, ?_, h3⟩, h4⟩
    subst h3
    rcases (h4.tk (r := osl E sz) (b := .slice a m c)).osl with ⟨k1, k2, _⟩ | ⟨g, n', cap, sp, k1, _, _, _, _, _⟩
    · cases k1; exact .inl ⟨rfl, k2⟩
    · cases k1; exact .inr ⟨g, rfl⟩
theorem frm_src20 {E n c : Nat} {a : Option Addr} {ys : List Value} (hf : Frm0 a ys) (hl : ys.length = n * sz) (hz : 0 < sz) (hc : Cells (OwnP W0 A) (obk a) 0 ys) : n = 0 ∨ ∃ bx ox, a = some ⟨bx, ox, none⟩ ∧ Cells (OwnP W0 A) bx ox ys := by
  rcases hf with ⟨_, h0⟩ | ⟨g, rfl⟩
  · left
    rw [h0] at hl
    rcases Nat.eq_zero_or_pos n with q | q
    · exact q
    · have := Nat.mul_pos q hz
      simp at hl; omega
  · exact .inr ⟨g, 0, rfl, hc⟩
end
theorem kept_one (l : List It) : allOne (l.flatMap keptV) = true := by
  induction l with
  | nil => rfl
  | cons x l ih => rw [List.flatMap_cons, allOne, List.all_append, Bool.and_eq_true]; exact ⟨rfl, ih⟩
abbrev KE := Key × Ent3
@[reducible] def keV (x : KE) : List Value := [.int .i64 x.1.1, .int .i64 x.1.2, .int .i64 x.2.1, .int .i64 x.2.2.1, .int .i64 x.2.2.2]
def keL (L : List Ln) (T : List It) : List KE := L.map (fun x => (x.k, x.e)) ++ T.map (fun y => (y.key, y.ent))
theorem keL_len {L : List Ln} {T : List It} : (keL L T).length = L.length + T.length := by simp [keL]
theorem keL_flat {L : List Ln} {T : List It} : (keL L T).flatMap keV = L.flatMap lkV ++ T.flatMap keptV := by
  rw [keL, List.flatMap_append, List.flatMap_map, List.flatMap_map]; rfl
theorem keL_mem {L : List Ln} {T : List It} (h : TI L T) : ∀ x ∈ keL L T, ∃ y ∈ L, y.e = x.2 := fun x hx => by
  rcases List.mem_append.1 hx with q | q
  · obtain ⟨y, hy, rfl⟩ := List.mem_map.1 q
    exact ⟨y, hy, rfl⟩
  · obtain ⟨y, hy, rfl⟩ := List.mem_map.1 q
    obtain ⟨z, hz, _, e⟩ := h.sub y hy
    exact ⟨z, hz, e⟩
theorem mmKept_spec (W0 : World) (R : List HP) (bm pv bt bs ps pm d : Nat) (its : List It) (room now : Nat) (T : List It) (L : List Ln) (fr : List Frm) (pg : List Pl) (hR : Rep its now T) (hT : T.length ≤ room) (hr : room ≤ 4) (h : MOk fr pg d L T) :
    Spec Tryz.prog W0 17 [.pointer (some ⟨bm, 0, none⟩)] (pt bm (mmO pv bt bs) :: rowH bt (its, tlV room now) :: shH bs L :: pt pv (viO ps pm d) :: R)
      (fun v B => ∃ a c its' T' L', v = .slice a (keL L' T').length c ∧ B = osl 68 5 (.slice a (keL L' T').length c) ((keL L' T').flatMap keV) :: pt bm (mmO pv bt bs) :: rowH bt (its', tlV room now) :: shH bs L' :: pt pv (viO ps pm 0) :: R ∧ Rep its' now T' ∧ T'.length ≤ room ∧ MOk fr pg 0 L' T') := by
  refine spec_body Tryz.func17 Tryz.ntmps17 rfl rfl ?_
  refine x_seq (x_region (s_val rfl (v_assign rfl) (x_nil (n_then (x_seq (x_seq (x_region (s_val rfl (v_move rfl) (s_do rfl (d_call1 Tryz.call31 rfl (mmNone_spec W0 _ bm pv bt bs)) ?_)))))))))
  rintro _ B_ ⟨rfl, hB_⟩
  obtain rfl := hB_.symm
  refine x_nil (n_then ?_)
  refine x_if rfl ?_ ?_
  · intro c1
    exact absurd c1 (by decide)
  · intro c1
    refine x_skip (n_then (x_seq (x_region (s_val rfl (v_move rfl) (s_do rfl (d_call4 Tryz.call42 rfl (mmSync_spec W0 _ bm pv bt bs ps pm d its (.int .i64 room) (.int .i64 now) now room T L fr pg hR hT hr h)) ?_)))))
    rintro _ B_ ⟨rfl, its1, T1, L1, hB_, hR1, hT1, h1, _⟩
    subst hB_
    have hll := h1.ti.len
    refine x_nil (n_then (x_seq ?_))
    refine x_draw [(bm, 0, _)] 12 mixed rfl (sc_own sc_end) (fun hS => ?_)
    refine d_take 0 rfl rfl (by kernel_rfl) (by kernel_rfl) (by kernel_rfl) rfl hS (v_move rfl) ?_
    refine d_take 1 rfl rfl (by kernel_rfl) (by kernel_rfl) (by kernel_rfl) rfl hS (v_nilCheck rfl) ?_
    refine d_take 2 rfl rfl (by kernel_rfl) (by kernel_rfl) (by kernel_rfl) rfl hS (v_fieldAddr rfl Tryz.underlying97 rfl Tryz.sizeOf95 rfl (by first | exact Nat.zero_add _ | rfl)) ?_
    refine d_take 3 rfl rfl (by kernel_rfl) (by kernel_rfl) (by kernel_rfl) rfl hS (v_load Tryz.isAgg95 rfl (cell_sc0 (k := 0) rfl rfl)) ?_
    refine d_take 5 rfl rfl (by kernel_rfl) (by kernel_rfl) (by kernel_rfl) rfl hS (v_move rfl) ?_
    refine d_take 6 rfl rfl (by kernel_rfl) (by kernel_rfl) (by kernel_rfl) rfl hS (v_nilCheck rfl) ?_
    refine d_take 7 rfl rfl (by kernel_rfl) (by kernel_rfl) (by kernel_rfl) rfl hS (v_fieldAddr rfl Tryz.underlying97 rfl Tryz.sizeOf94 rfl (by first | exact Nat.zero_add _ | rfl)) ?_
    refine d_take 8 rfl rfl (by kernel_rfl) (by kernel_rfl) (by kernel_rfl) rfl hS (v_load Tryz.isAgg94 rfl (cell_sc0 (k := 0) rfl rfl)) ?_
    refine d_one 4 (by kernel_rfl) rfl rfl (d_call1 Tryz.call51 rfl (shList_spec W0 _ bs L1 (by omega))) rfl ?_; clear hS
    rintro _ B_ ⟨a1, k1, rfl, hB_⟩
    subst hB_
    refine ⟨(sc_own sc_end), fun hS => ?_⟩
    refine d_one 9 (by kernel_rfl) rfl rfl (d_call1 Tryz.call52 rfl (spec_frm (List_spec18 W0 _ bt its1 (.int .i64 room) (.int .i64 now) now T1 hR1 (by omega)))) rfl ?_; clear hS
    rintro _ B_ ⟨a2, k2, rfl, hf2, hB_⟩
    subst hB_
    refine ⟨(sc_own sc_end), fun hS => ?_⟩
    refine d_one 10 (by kernel_rfl) rfl rfl (d_appendS (sz := 5) (by_ := 40) (info := Tryz.t68) Tryz.underlying61 (by kernel_rfl) rfl rfl rfl rfl (by decide) rfl rfl (news := T1.flatMap keptV) (frm_src20 (c := k2) (E := 68) hf2 (flat_len keptV_len T1) (by decide) (cells_osl (E := 68) (sz := 5) (a := a2) (n := T1.length) (c := k2))) (flat_len keptV_len T1) (kept_one T1) (by simp only [maxLen]; omega) (by omega)) rfl ?_; clear hS
    rintro _ _ ⟨a3, k3, rfl, rfl⟩
    refine ⟨(sc_own sc_end), fun hS => ?_⟩
    refine d_take 11 rfl rfl (by kernel_rfl) (by kernel_rfl) (by kernel_rfl) rfl hS (v_assign rfl) ?_
    refine d_done (by kernel_rfl) ?_; clear hS
    refine n_then (x_ret (x_done (.inl rfl) (.cons (r_tmp rfl) .nil) ?_))
    refine ⟨_, ⟨a3, k3, its1, T1, L1, ?_, rfl, hR1, hT1, h1⟩, ?_⟩
    · rw [keL_len]; rfl
    · rw [keL_len, keL_flat]; exact inferInstance
theorem mmTable0_spec (W0 : World) (R : List HP) (bm pv bt bs ps pm : Nat) (its : List It) (room now : Nat) (T : List It) (L : List Ln) (fr : List Frm) (pg : List Pl) (hR : Rep its now T) (hT : T.length ≤ room) (hr : room ≤ 4) (h : MOk fr pg 0 L T) (p : Int) :
    Spec Tryz.prog W0 20 [.pointer (some ⟨bm, 0, none⟩), .int .i64 p] (pt bm (mmO pv bt bs) :: rowH bt (its, tlV room now) :: shH bs L :: pt pv (viO ps pm 0) :: R)
      (fun v B => ∃ its' T', v = .bool (shT L p) ∧ B = pt bm (mmO pv bt bs) :: rowH bt (its', tlV room now) :: shH bs L :: pt pv (viO ps pm 0) :: R ∧ Rep its' now T' ∧ T'.length ≤ room ∧ MOk fr pg 0 L T') := by
  refine spec_body Tryz.func20 Tryz.ntmps20 rfl rfl ?_
  refine x_seq (x_region (s_val rfl (v_assign rfl) (x_nil (n_then (x_seq (x_seq (x_region (s_val rfl (v_move rfl) (s_do rfl (d_call1 Tryz.call31 rfl (mmNone_spec W0 _ bm pv bt bs)) ?_)))))))))
  rintro _ B_ ⟨rfl, hB_⟩
  obtain rfl := hB_.symm
  refine x_nil (n_then ?_)
  refine x_if rfl ?_ ?_
  · intro c1
    exact absurd c1 (by decide)
  · intro c1
    refine x_skip (n_then (x_seq (x_region (s_val rfl (v_move rfl) (s_do rfl (d_call4 Tryz.call42 rfl (mmSync_spec W0 _ bm pv bt bs ps pm 0 its (.int .i64 room) (.int .i64 now) now room T L fr pg hR hT hr h)) ?_)))))
    rintro _ B_ ⟨rfl, its1, T1, L1, hB_, hR1, hT1, h1, _, hsame⟩
    subst hB_
    obtain rfl : L1 = L := hsame (by decide)
    have hll := h1.ti.len
    refine x_nil (n_then (x_seq (x_region (s_val rfl (v_move rfl) (s_val rfl (v_nilCheck rfl) ?_)))))
    refine s_val rfl (v_fieldAddr rfl Tryz.underlying97 rfl Tryz.sizeOf95 rfl (by first | exact Nat.zero_add _ | rfl)) ?_
    refine s_val rfl (v_load Tryz.isAgg95 rfl (cell_own rfl)) ?_
    refine s_val rfl (v_move rfl) ?_
    refine s_do rfl (d_call1 Tryz.call55 rfl (shTable_spec W0 _ bs L1 (by omega) p)) ?_
    rintro _ B_ ⟨rfl, hB_⟩
    obtain rfl := hB_.symm
    refine s_val rfl (v_assign rfl) (x_nil (n_then (x_ret (x_done (.inl rfl) (.cons (r_tmp rfl) .nil) ?_))))
    exact ⟨_, ⟨its1, T1, rfl, rfl, hR1, hT1, h1⟩, inferInstance⟩
theorem bit_of {r : Int} (h : 0 ≤ r ∧ r < 16) {c : Int} (hc : c = 2 ∨ c = 4) (hb : bAnd .i64 r c ≠ 0) : bitR r c = true := by
  obtain ⟨n, rfl⟩ : ∃ n : Nat, r = (n : Int) := ⟨r.toNat, by omega⟩
  have key : ∀ n : Nat, n < 16 → (bAnd .i64 (n : Int) 2 ≠ 0 → bitR (n : Int) 2 = true) ∧ (bAnd .i64 (n : Int) 4 ≠ 0 → bitR (n : Int) 4 = true) := by decide +kernel
  rcases hc with rfl | rfl
  · exact (key n (by omega)).1 hb
  · exact (key n (by omega)).2 hb
theorem hold_ok {fr : List Frm} {pg : List Pl} {L : List Ln} {T : List It} (h : MOk fr pg 0 L T) {x : Ln} (hx : x ∈ L) :
    thereB pg x.e.1 = true ∧ (gGot pg x.e.1).1 = x.e.2.1 ∧ (bAnd .i64 x.e.2.2 2 ≠ 0 → bAnd .i64 (gGot pg x.e.1).2 2 ≠ 0 ∧ shT L x.e.1 = false) ∧ (bAnd .i64 x.e.2.2 1 ≠ 0 → bAnd .i64 (gGot pg x.e.1).2 1 ≠ 0) ∧ (bAnd .i64 x.e.2.2 4 ≠ 0 → x.e.1 < 8) := by
  have hl := h.ln x hx
  obtain ⟨n, hn, hn12, hg⟩ := got_pl h.pl hl.at_.1
  have hpa : plAt pg n = pl20 n := by
    rw [gGot, if_pos hl.at_.1, hn] at hg; exact hg
  have hal : ∀ k c, needOk k = true → needR k = c → bitR x.e.2.2 c = true → mayB (n : Int) (pl20 n) k = true := fun k c hk hc hb => by
    have q := hl.al k hk (by rw [hc]; exact hb)
    rw [alwE, if_pos hl.at_.1, hn, Int.toNat_natCast, hpa] at q
    split at q
    · assumption
    · exact absurd q (by decide)
  have k2 : ∀ n : Nat, n < 12 → mayB (n : Int) (pl20 n) 2 = true → bAnd .i64 (pl20 n).2 2 ≠ 0 := by decide +kernel
  have k1 : ∀ n : Nat, n < 12 → bAnd .i64 (pl20 n).2 1 ≠ 0 := by decide +kernel
  have k0 : ∀ n : Nat, n < 12 → mayB (n : Int) (pl20 n) 0 = true → n < 8 := by decide +kernel
  refine ⟨hl.at_.1, hl.at_.2, fun q => ?_, fun q => ?_, fun q => ?_⟩
  · have hb := bit_of hl.r (.inl rfl) q
    refine ⟨by rw [hg]; exact k2 n hn12 (hal 2 2 (by decide) (by decide) hb), h.ti.nowr x hx ?_⟩
    obtain ⟨m, hm⟩ : ∃ m : Nat, x.e.2.2 = (m : Int) := ⟨x.e.2.2.toNat, by have := hl.r; omega⟩
    rw [hm] at hb ⊢
    exact bit_w (by have := hl.r; omega) hb
  · rw [hg]; exact k1 n hn12
  · have := k0 n hn12 (hal 0 4 (by decide) (by decide) (bit_of hl.r (.inr rfl) q))
    omega
end Go.Proofs.YtllkdnadmmjehaaGreatDoor
namespace Go.Proofs.YtllkdnadmmjehaaGreatDoor
open Go.RowKit
set_option linter.unusedSimpArgs false
set_option linter.unusedVariables false
set_option maxRecDepth 20000
theorem MmuHolds_walk (W0 : World) (hK : ∀ A, Cells (OwnP W0 A) 0 0 kdV) (rm : Nat) (hrm : rm < 256) (al ab : Option Addr) (cl cb : Nat) (ts : List Pt17) (as_ : List Ac) (hts : SlB W0 al 2 pt17V ts) (htok : ∀ t ∈ ts, Pt17Ok t) (hl : ts.length < 9223372036854775808) (has : SlB W0 ab 8 acV as_) (hok : ∀ a ∈ as_, AcOk a) (hla : as_.length < 9223372036854775808) :
    Spec Tryz.prog W0 5 [.int .u8 rm, .slice al ts.length cl, .slice ab as_.length cb] [] (fun v B => v = .bool true) := by
  have hm0 := mk20_ok ts
  refine spec_body Tryz.func5 Tryz.ntmps5 rfl rfl ?_
  refine x_seq (x_region (s_val rfl (v_assign rfl) (x_nil (n_then (x_seq (x_region (s_val rfl (v_move rfl) ?_)))))))
  refine s_val rfl (v_rem rfl rfl (by decide) (tmodN rm 5)) ?_
  refine s_val rfl (v_conv Tryz.underlying5 Tryz.underlying3 rfl (w64 (by omega))) ?_
  refine s_val rfl (v_move rfl) ?_
  refine s_do rfl (d_call Tryz.call6 rfl (made20_spec W0 _ (rm % 5) (by omega) al cl ts (sla_base hts) htok hl)) ?_
  rintro _ B_ ⟨bm, bt, bs, pv, ps, pm, qv, qs, qm, rfl, hB_⟩
  subst hB_
  generalize (mk20 ts).1 = fr0 at hm0
  generalize (mk20 ts).2 = d0 at hm0
  generalize pg17 0 10 = pg0 at hm0
  generalize hroom : rm % 5 = room
  have hr4 : room ≤ 4 := by omega
  refine s_val rfl (v_move rfl) (s_val rfl (v_extract rfl rfl) (s_val rfl (v_extract rfl rfl) (s_val rfl (v_extract rfl rfl) (s_val rfl (v_assign rfl) (s_val rfl (v_assign rfl) (s_val rfl (v_assign rfl) (x_nil (n_then (x_seq (x_seq (x_region (s_val rfl (v_move rfl) (s_val rfl (v_eql_ptr_nil Tryz.underlying24 rfl rfl) (s_val rfl (v_move rfl) ?_))))))))))))))
  refine s_or rfl rfl rfl ?_ ?_
  · intro g2_3
    first | cases g2_3 | exact absurd g2_3 (by simp)
  · intro g2_3
    refine s_val rfl (v_move rfl) (s_yes rfl rfl (s_val rfl (v_eql_ptr_nil Tryz.underlying26 rfl rfl) (s_val rfl (v_pick_f rfl rfl) (x_nil (n_then ?_)))))
    refine x_if rfl ?_ ?_
    · intro c2
      first | cases c2 | exact absurd c2 (by simp)
    · intro c2
      refine x_skip (n_then ?_)
      refine x_cut (fun _ : Unit => True) (fun _ => []) (fun _ => []) ?_ ?_
      · skip
        refine x_seq (x_region (s_val rfl (v_assign rfl) (x_nil (n_then (x_block ?_)))))
        refine x_loop (fun Z : Nat × List It × List It × List Ln × Nat × Nat × Nat × List Frm × List Pl => Z.1 ≤ 40 ∧ Rep Z.2.1 Z.2.2.2.2.1 Z.2.2.1 ∧ Z.2.2.1.length ≤ room ∧ MOk Z.2.2.2.2.2.2.2.1 Z.2.2.2.2.2.2.2.2 Z.2.2.2.2.2.1 Z.2.2.2.1 Z.2.2.1 ∧ Z.2.2.2.2.1 ≤ 9 * Z.1) (fun Z => [(2, .slice ab as_.length cb), (7, .pointer (some ⟨bm, 0, none⟩)), (8, .pointer (some ⟨pv, 0, none⟩)), (9, .pointer (some ⟨qv, 0, none⟩)), (10, .int .i64 Z.1)]) (fun Z => mmS bm bt bs pv ps pm qv qs qm room Z.2.2.2.2.2.2.1 Z.2.2.2.2.2.1 Z.2.2.2.2.1 Z.2.1 Z.2.2.2.1 Z.2.2.2.2.2.2.2.1 Z.2.2.2.2.2.2.2.2) (fun Z => 40 - Z.1) (0, [], [], [], 0, d0, d0, fr0, pg0) ?_ ?_ ?_ ?_
        · exact ⟨Nat.zero_le _, Rep.nil, Nat.zero_le _, hm0, Nat.le_refl _⟩
        · repeat (first | exact sub_nil | refine sub_cons rfl ?_)
        · exact inferInstance
        · intro ⟨i, its0, T0, L0, now0, d0, e0, fr0, pg0⟩ ⟨hi, hR0, hT0, h0, hn0⟩
          dsimp only at hi hR0 hT0 h0 hn0 ⊢
          refine x_seq (x_seq (x_region (s_val rfl (v_move rfl) (s_val rfl (v_move rfl) (s_val rfl (v_len_slice Tryz.underlying23 rfl) (s_val rfl (v_lss rfl rfl) (s_val rfl (v_move rfl) ?_)))))))
          refine s_and rfl rfl rfl ?_ ?_
          · intro g5_5
            refine s_val rfl (v_move rfl) (s_yes rfl rfl (s_val rfl (v_lss rfl rfl) (s_val rfl (v_pick_t rfl rfl) (x_nil (n_then ?_)))))
            refine x_if rfl ?_ ?_
            · intro c5
              refine x_skip (n_then (x_seq (x_block (x_seq ?_))))
              have hi1 : i < as_.length := by omega
              have hi40 : i < 40 := by omega
              obtain ⟨g, o, hga, hc⟩ := (sla_base (A := []) has).at_ hi1
              obtain ⟨a, ha⟩ : ∃ a, as_[i] = a := ⟨_, rfl⟩
              have haok := hok _ (List.getElem_mem hi1)
              rw [ha] at hc haok
              obtain ⟨ha1, ha2⟩ := id haok
              refine x_region (s_val rfl (v_move rfl) (s_val rfl (v_move rfl) ?_))
              refine s_val rfl (v_idxA Tryz.underlying23 Tryz.sizeOf33 rfl hga rfl rfl hi1 (by first | exact Nat.zero_add _ | rfl)) ?_
              refine s_val rfl (v_loadAgg Tryz.isAgg33 Tryz.sizeOf33 rfl hc.weak rfl) ?_
              refine s_do rfl (d_allocA Tryz.zeroValue33) ?_
              rintro _ _ ⟨bx, rfl, rfl⟩
              refine s_do0 (d_storeAll Tryz.sizeOf33 rfl rfl rfl rfl rfl) ?_
              rintro _ _ rfl
              refine x_nil (n_then (x_seq (x_region (s_val rfl (v_move rfl) (s_val rfl (v_move rfl) (s_val rfl (v_move rfl) (s_val rfl (v_loadAll Tryz.isAgg33 Tryz.sizeOf33 rfl rfl) ?_)))))))
              refine s_do rfl (d_call9 Tryz.call12 rfl (mmDo_spec W0 hK bm bt bs pv ps pm qv qs qm room e0 d0 now0 its0 T0 L0 fr0 pg0 a haok hR0 hT0 hr4 (by omega) h0 _)) ?_
              rintro _ B_ ⟨rfl, e, d, now, its, T, L, fr, pg, hR, hT, h, hn, hB_⟩
              subst hB_
              refine x_nil (n_then (x_seq (x_region (s_val rfl (v_move rfl) ?_))))
              refine s_val rfl (v_fieldAddr rfl Tryz.underlying33 rfl Tryz.sizeOf30 rfl (by first | exact Nat.zero_add _ | rfl)) ?_
              refine s_val rfl (v_loadPart Tryz.isAgg30 Tryz.sizeOf30 rfl TakeL.eq rfl) ?_
              refine s_val rfl (v_fieldAddr rfl Tryz.underlying33 rfl Tryz.sizeOf31 rfl (by first | exact Nat.zero_add _ | rfl)) ?_
              refine s_val rfl (v_load Tryz.isAgg31 rfl (cell_own rfl)) ?_
              refine s_val rfl (v_fieldAddr rfl Tryz.underlying33 rfl Tryz.sizeOf3 rfl (by first | exact Nat.zero_add _ | rfl)) ?_
              refine s_val rfl (v_load Tryz.isAgg3 rfl (cell_own rfl)) ?_
              refine s_do rfl (d_call6 Tryz.call13 rfl (mmFind_spec W0 _ hK bm pv bt bs ps pm d a.on a.root a.user a.va ha1 a.kind its room now T L fr pg hR hT hr4 (by omega) h)) ?_
              rintro _ B_ ⟨fast, its2, T2, L2, now2, d2, rfl, hfast, hR2, hT2, h2, hn2, hB_⟩
              subst hB_
              clear hfast
              refine x_nil (n_then (x_seq (x_region (s_val rfl (v_move rfl) (s_do rfl (d_call4 Tryz.call17 rfl (mmKept_spec W0 _ bm pv bt bs ps pm d2 its2 room now2 T2 L2 fr pg hR2 hT2 hr4 h2)) ?_)))))
              rintro _ B_ ⟨ak, ck, its3, T3, L3, rfl, hB_, hR3, hT3, h3⟩
              subst hB_
              obtain ⟨kl, hkl⟩ : ∃ l, keL L3 T3 = l := ⟨_, rfl⟩
              have hkm := keL_mem h3.ti
              have hklen : kl.length ≤ 36 := by rw [← hkl, keL_len]; have := h3.ti.len; omega
              rw [hkl] at hkm ⊢
              refine s_val rfl (v_assign rfl) (x_nil (n_then (x_seq (x_region (s_val rfl (v_assign rfl) (x_nil (n_then (x_block ?_))))))))
              refine x_loop (fun Z : Nat × List It × List It => Z.1 ≤ kl.length ∧ Rep Z.2.1 now2 Z.2.2 ∧ Z.2.2.length ≤ room ∧ MOk fr pg 0 L3 Z.2.2) (fun Z => [(2, .slice ab as_.length cb), (7, .pointer (some ⟨bm, 0, none⟩)), (8, .pointer (some ⟨pv, 0, none⟩)), (9, .pointer (some ⟨qv, 0, none⟩)), (10, .int .i64 i), (12, .slice ak kl.length ck), (13, .int .i64 Z.1)]) (fun Z => osl 68 5 (.slice ak kl.length ck) (kl.flatMap keV) :: mmS bm bt bs pv ps pm qv qs qm room e 0 now2 Z.2.1 L3 fr pg) (fun Z => kl.length - Z.1) (0, its3, T3) ?_ ?_ ?_ ?_
              · exact ⟨Nat.zero_le _, hR3, hT3, h3⟩
              · repeat (first | exact sub_nil | refine sub_cons rfl ?_)
              · exact inferInstance
              · intro ⟨j, its4, T4⟩ ⟨hj, hR4, hT4, h4⟩
                dsimp only at hj hR4 hT4 h4 ⊢
                refine x_seq (x_seq (x_region (s_val rfl (v_move rfl) (s_val rfl (v_move rfl) (s_val rfl (v_len_slice Tryz.underlying61 rfl) (s_val rfl (v_lss rfl rfl) (x_nil (n_then ?_))))))))
                refine x_if rfl ?_ ?_
                · intro c12
                  refine x_skip (n_then (x_seq (x_block (x_seq ?_))))
                  have hj1 : j < kl.length := by omega
                  refine run_sla (E := 68) (sz := 5) (a := ak) (c := ck) (n := kl.length) keV kl (fun _ => rfl) (by decide) rfl (fun hs => ?_)
                  obtain ⟨g2, o2, hga2, hc2⟩ := hs.at_ hj1
                  obtain ⟨y, hy, hye⟩ := hkm _ (List.getElem_mem hj1)
                  obtain ⟨x, hx⟩ : ∃ x, kl[j] = x := ⟨_, rfl⟩
                  rw [hx] at hc2 hye
                  obtain ⟨hat, hfr, hw2, hw1, hw4⟩ := hold_ok h4 hy
                  rw [hye] at hat hfr hw2 hw1 hw4
                  obtain ⟨pl, hpl⟩ : ∃ p, gGot pg x.2.1 = p := ⟨_, rfl⟩
                  rw [hpl] at hfr hw2 hw1
                  refine x_region (s_val rfl (v_move rfl) (s_val rfl (v_move rfl) ?_))
                  refine s_val rfl (v_idxA Tryz.underlying61 Tryz.sizeOf68 rfl hga2 rfl rfl hj1 (by first | exact Nat.zero_add _ | rfl)) ?_
                  refine s_val rfl (v_fieldAddr rfl Tryz.underlying68 rfl Tryz.sizeOf66 rfl (by first | exact Nat.zero_add _ | rfl)) ?_
                  refine s_val rfl (v_loadAgg Tryz.isAgg66 Tryz.sizeOf66 rfl (cells_mid (k := 2) (us := [.int .i64 x.2.1, .int .i64 x.2.2.1, .int .i64 x.2.2.2]) hc2.weak rfl) rfl) ?_
                  refine s_do rfl (d_allocA Tryz.zeroValue66) ?_
                  rintro _ _ ⟨bk, rfl, rfl⟩
                  refine s_do0 (d_storeAll Tryz.sizeOf66 rfl rfl rfl rfl rfl) ?_
                  rintro _ _ rfl
                  refine x_nil (n_then ?_)
                  refine x_cut (fun b15 : Nat => True) (fun b15 => [(2, .slice ab as_.length cb), (7, .pointer (some ⟨bm, 0, none⟩)), (8, .pointer (some ⟨pv, 0, none⟩)), (9, .pointer (some ⟨qv, 0, none⟩)), (10, .int .i64 i), (12, .slice ak kl.length ck), (13, .int .i64 j), (14, .pointer (some ⟨bk, 0, none⟩)), (15, .pointer (some ⟨b15, 0, none⟩)), (16, .bool true)]) (fun b15 => pt b15 (cob (plV pl) 70) :: pt bk (cob [.int .i64 x.2.1, .int .i64 x.2.2.1, .int .i64 x.2.2.2] 66) :: osl 68 5 (.slice ak kl.length ck) (kl.flatMap keV) :: mmS bm bt bs pv ps pm qv qs qm room e 0 now2 its4 L3 fr pg) ?_ ?_
                  · skip
                    refine x_draw [(bk, 0, _)] 11 mixed rfl (sc_own sc_end) (fun hS => ?_)
                    refine d_take 0 rfl rfl (by kernel_rfl) (by kernel_rfl) (by kernel_rfl) rfl hS (v_move rfl) ?_
                    refine d_take 2 rfl rfl (by kernel_rfl) (by kernel_rfl) (by kernel_rfl) rfl hS (v_fieldAddr rfl Tryz.underlying66 rfl Tryz.sizeOf3 rfl (by first | exact Nat.zero_add _ | rfl)) ?_
                    refine d_take 3 rfl rfl (by kernel_rfl) (by kernel_rfl) (by kernel_rfl) rfl hS (v_load Tryz.isAgg3 rfl (cell_sc0 (k := 0) rfl rfl)) ?_
                    refine d_all (is := [1, 8]) (by kernel_rfl) rfl ⟨?_, ?_, trivial⟩
                    · skip
                      refine dx_one rfl rfl (d_call1 Tryz.call18 rfl (viMap_spec W0 _ pv ps pm 0)) rfl ?_; clear hS
                      rintro _ B_ ⟨rfl, hB_⟩
                      obtain rfl := hB_.symm
                      refine ⟨(sc_own sc_end), fun hS => ?_⟩
                      refine d_all (is := [4, 8]) (by kernel_rfl) rfl ⟨?_, ?_, trivial⟩
                      · skip
                        refine dx_one rfl rfl (d_call1 Tryz.call19 rfl (gmGet_spec W0 _ pm pg h4.P x.2.1)) rfl ?_; clear hS
                        rintro _ B_ ⟨rfl, hB_⟩
                        subst hB_
                        rw [hpl, hat]
                        refine ⟨(sc_own sc_end), fun hS => ?_⟩
                        refine d_take 5 rfl rfl (by kernel_rfl) (by kernel_rfl) (by kernel_rfl) rfl hS (v_move rfl) ?_
                        refine d_take 6 rfl rfl (by kernel_rfl) (by kernel_rfl) (by kernel_rfl) rfl hS (v_extract rfl rfl) ?_
                        refine d_take 7 rfl rfl (by kernel_rfl) (by kernel_rfl) (by kernel_rfl) rfl hS (v_extract rfl rfl) ?_
                        refine d_one 8 (by kernel_rfl) rfl rfl (d_allocA Tryz.zeroValue70) rfl ?_; clear hS
                        rintro _ _ ⟨b15, rfl, rfl⟩
                        refine ⟨(sc_own sc_end), fun hS => ?_⟩
                        refine d_one 9 (by kernel_rfl) rfl rfl (d_storeAll Tryz.sizeOf70 rfl rfl rfl rfl rfl) rfl ?_; clear hS
                        rintro _ _ rfl
                        refine ⟨(sc_own sc_end), fun hS => ?_⟩
                        refine d_take 10 rfl rfl (by kernel_rfl) (by kernel_rfl) (by kernel_rfl) rfl hS (v_assign rfl) ?_
                        refine d_done (by kernel_rfl) ?_; clear hS
                        refine n_then ?_
                        refine mid_intro b15 ?_ ?_ ?_
                        · trivial
                        · repeat (first | exact sub_nil | refine sub_cons rfl ?_)
                        · exact inferInstance
                      · skip
                        refine dx_one rfl rfl (d_allocA Tryz.zeroValue70) rfl ?_; clear hS
                        rintro _ _ ⟨b15, rfl, rfl⟩
                        refine ⟨(sc_own sc_end), fun hS => ?_⟩
                        refine d_one 4 (by kernel_rfl) rfl rfl (d_call1 Tryz.call19 rfl (gmGet_spec W0 _ pm pg h4.P x.2.1)) rfl ?_; clear hS
                        rintro _ B_ ⟨rfl, hB_⟩
                        subst hB_
                        rw [hpl, hat]
                        refine ⟨(sc_own sc_end), fun hS => ?_⟩
                        refine d_take 5 rfl rfl (by kernel_rfl) (by kernel_rfl) (by kernel_rfl) rfl hS (v_move rfl) ?_
                        refine d_take 6 rfl rfl (by kernel_rfl) (by kernel_rfl) (by kernel_rfl) rfl hS (v_extract rfl rfl) ?_
                        refine d_take 7 rfl rfl (by kernel_rfl) (by kernel_rfl) (by kernel_rfl) rfl hS (v_extract rfl rfl) ?_
                        refine d_one 9 (by kernel_rfl) rfl rfl (d_storeAll Tryz.sizeOf70 rfl rfl rfl rfl rfl) rfl ?_; clear hS
                        rintro _ _ rfl
                        refine ⟨(sc_own sc_end), fun hS => ?_⟩
                        refine d_take 10 rfl rfl (by kernel_rfl) (by kernel_rfl) (by kernel_rfl) rfl hS (v_assign rfl) ?_
                        refine d_done (by kernel_rfl) ?_; clear hS
                        refine n_then ?_
                        refine mid_intro b15 ?_ ?_ ?_
                        · trivial
                        · repeat (first | exact sub_nil | refine sub_cons rfl ?_)
                        · exact inferInstance
                    · skip
                      refine dx_one rfl rfl (d_allocA Tryz.zeroValue70) rfl ?_; clear hS
                      rintro _ _ ⟨b15, rfl, rfl⟩
                      refine ⟨(sc_own sc_end), fun hS => ?_⟩
                      refine d_one 1 (by kernel_rfl) rfl rfl (d_call1 Tryz.call18 rfl (viMap_spec W0 _ pv ps pm 0)) rfl ?_; clear hS
                      rintro _ B_ ⟨rfl, hB_⟩
                      obtain rfl := hB_.symm
                      refine ⟨(sc_own sc_end), fun hS => ?_⟩
                      refine d_one 4 (by kernel_rfl) rfl rfl (d_call1 Tryz.call19 rfl (gmGet_spec W0 _ pm pg h4.P x.2.1)) rfl ?_; clear hS
                      rintro _ B_ ⟨rfl, hB_⟩
                      subst hB_
                      rw [hpl, hat]
                      refine ⟨(sc_own sc_end), fun hS => ?_⟩
                      refine d_take 5 rfl rfl (by kernel_rfl) (by kernel_rfl) (by kernel_rfl) rfl hS (v_move rfl) ?_
                      refine d_take 6 rfl rfl (by kernel_rfl) (by kernel_rfl) (by kernel_rfl) rfl hS (v_extract rfl rfl) ?_
                      refine d_take 7 rfl rfl (by kernel_rfl) (by kernel_rfl) (by kernel_rfl) rfl hS (v_extract rfl rfl) ?_
                      refine d_one 9 (by kernel_rfl) rfl rfl (d_storeAll Tryz.sizeOf70 rfl rfl rfl rfl rfl) rfl ?_; clear hS
                      rintro _ _ rfl
                      refine ⟨(sc_own sc_end), fun hS => ?_⟩
                      refine d_take 10 rfl rfl (by kernel_rfl) (by kernel_rfl) (by kernel_rfl) rfl hS (v_assign rfl) ?_
                      refine d_done (by kernel_rfl) ?_; clear hS
                      refine n_then ?_
                      refine mid_intro b15 ?_ ?_ ?_
                      · trivial
                      · repeat (first | exact sub_nil | refine sub_cons rfl ?_)
                      · exact inferInstance
                  · intro b15 _
                    refine x_seq (x_seq (x_region (s_val rfl (v_move rfl) (s_val rfl (v_not rfl) (s_val rfl (v_move rfl) ?_)))))
                    refine s_or rfl rfl rfl ?_ ?_
                    · intro g16_3
                      first | cases g16_3 | exact absurd g16_3 (by simp)
                    · intro g16_3
                      refine s_val rfl (v_fieldAddr rfl Tryz.underlying70 rfl Tryz.sizeOf3 rfl (by first | exact Nat.zero_add _ | rfl)) ?_
                      refine s_yes rfl rfl (s_val rfl (v_load Tryz.isAgg3 rfl (cell_own rfl)) ?_)
                      refine s_yes rfl rfl ?_
                      refine s_val rfl (v_fieldAddr rfl Tryz.underlying66 rfl Tryz.sizeOf3 rfl (by first | exact Nat.zero_add _ | rfl)) ?_
                      refine s_yes rfl rfl (s_val rfl (v_load Tryz.isAgg3 rfl (cell_own rfl)) ?_)
                      refine s_yes rfl rfl (s_val rfl (v_neq rfl rfl) (s_val rfl (v_pick_f rfl rfl) (x_nil (n_then ?_))))
                      refine x_if rfl ?_ ?_
                      · intro c16
                        first | cases c16 | exact absurd hfr c16 | exact absurd c16 (by simp)
                      · intro c16
                        refine x_skip (n_then (x_seq (x_region ?_)))
                        refine s_val rfl (v_fieldAddr rfl Tryz.underlying66 rfl Tryz.sizeOf3 rfl (by first | exact Nat.zero_add _ | rfl)) ?_
                        refine s_val rfl (v_load Tryz.isAgg3 rfl (cell_own rfl)) ?_
                        refine s_val rfl (v_and rfl rfl rfl) ?_
                        refine s_val rfl (v_neq rfl rfl) (s_val rfl (v_move rfl) ?_)
                        refine s_and rfl rfl rfl ?_ ?_
                        · intro g18_5
                          refine s_val rfl (v_fieldAddr rfl Tryz.underlying70 rfl Tryz.sizeOf3 rfl (by first | exact Nat.zero_add _ | rfl)) ?_
                          refine s_yes rfl rfl (s_val rfl (v_load Tryz.isAgg3 rfl (cell_own rfl)) ?_)
                          refine s_yes rfl rfl (s_val rfl (v_and rfl rfl rfl) ?_)
                          refine s_yes rfl rfl (s_val rfl (v_eql rfl rfl) (s_yes rfl rfl (s_val rfl (v_move rfl) ?_)))
                          refine s_or rfl rfl rfl ?_ ?_
                          · intro g18_10
                            exact absurd g18_10 (hw2 g18_5).1
                          · intro g18_10
                            refine s_val rfl (v_move rfl) (s_yes rfl rfl ?_)
                            refine s_val rfl (v_fieldAddr rfl Tryz.underlying66 rfl Tryz.sizeOf3 rfl (by first | exact Nat.zero_add _ | rfl)) ?_
                            refine s_yes rfl rfl (s_val rfl (v_load Tryz.isAgg3 rfl (cell_own rfl)) ?_)
                            refine s_yes rfl rfl (s_do rfl (d_call4 Tryz.call20 rfl (mmTable0_spec W0 _ bm pv bt bs ps pm its4 room now2 T4 L3 fr pg hR4 hT4 hr4 h4 x.2.1)) ?_)
                            rintro _ B_ ⟨its5, T5, rfl, hB_, hR5, hT5, h5⟩
                            subst hB_
                            rw [(hw2 g18_5).2]
                            refine s_yes rfl rfl (s_val rfl (v_pick_f rfl rfl) (s_val rfl (v_pick_t rfl rfl) (s_val rfl (v_move rfl) ?_)))
                            refine s_or rfl rfl rfl ?_ ?_
                            · intro g18_17
                              first | cases g18_17 | exact absurd g18_17 (by simp)
                            · intro g18_17
                              refine s_val rfl (v_fieldAddr rfl Tryz.underlying66 rfl Tryz.sizeOf3 rfl (by first | exact Nat.zero_add _ | rfl)) ?_
                              refine s_yes rfl rfl (s_val rfl (v_load Tryz.isAgg3 rfl (cell_own rfl)) ?_)
                              refine s_yes rfl rfl (s_val rfl (v_and rfl rfl rfl) ?_)
                              refine s_yes rfl rfl (s_val rfl (v_neq rfl rfl) (s_yes rfl rfl (s_val rfl (v_move rfl) ?_)))
                              refine s_and rfl rfl rfl ?_ ?_
                              · intro g18_22
                                refine s_val rfl (v_fieldAddr rfl Tryz.underlying70 rfl Tryz.sizeOf3 rfl (by first | exact Nat.zero_add _ | rfl)) ?_
                                refine s_yes rfl rfl (s_val rfl (v_load Tryz.isAgg3 rfl (cell_own rfl)) ?_)
                                refine s_yes rfl rfl (s_val rfl (v_and rfl rfl rfl) ?_)
                                refine s_yes rfl rfl (s_val rfl (v_eql rfl rfl) (s_yes rfl rfl (s_val rfl (v_pick_t rfl rfl) (s_val rfl (v_pick_f rfl rfl) (s_val rfl (v_move rfl) ?_)))))
                                refine s_or rfl rfl rfl ?_ ?_
                                · intro g18_29
                                  first | cases g18_29 | exact absurd g18_29 (hw1 g18_22) | exact absurd g18_29 (by simp)
                                · intro g18_29
                                  refine s_val rfl (v_fieldAddr rfl Tryz.underlying66 rfl Tryz.sizeOf3 rfl (by first | exact Nat.zero_add _ | rfl)) ?_
                                  refine s_yes rfl rfl (s_val rfl (v_load Tryz.isAgg3 rfl (cell_own rfl)) ?_)
                                  refine s_yes rfl rfl (s_val rfl (v_and rfl rfl rfl) ?_)
                                  refine s_yes rfl rfl (s_val rfl (v_neq rfl rfl) (s_yes rfl rfl (s_val rfl (v_move rfl) ?_)))
                                  refine s_and rfl rfl rfl ?_ ?_
                                  · intro g18_34
                                    refine s_val rfl (v_fieldAddr rfl Tryz.underlying66 rfl Tryz.sizeOf3 rfl (by first | exact Nat.zero_add _ | rfl)) ?_
                                    refine s_yes rfl rfl (s_val rfl (v_load Tryz.isAgg3 rfl (cell_own rfl)) ?_)
                                    refine s_yes rfl rfl (s_val rfl (v_geq rfl rfl) (s_yes rfl rfl (s_val rfl (v_pick_t rfl rfl) (s_val rfl (v_pick_f rfl rfl) (x_nil (n_then ?_))))))
                                    refine x_if rfl ?_ ?_
                                    · intro c18
                                      first | cases c18 | exact absurd (hw4 g18_34) (by omega) | exact absurd c18 (by simp)
                                    · intro c18
                                      refine x_skip (n_block (n_then (x_region (s_val rfl (v_move rfl) ?_))))
                                      refine s_val rfl (v_add rfl rfl (by first | exact w64 (by omega) | rfl)) ?_
                                      refine s_val rfl (v_assign rfl) (x_nil (n_then ?_))
                                      refine inv_intro (j + 1, its5, T5) ?_ ?_ ?_ ?_
                                      · exact ⟨hj1, hR5, hT5, h5⟩
                                      · omega
                                      · repeat (first | exact sub_nil | refine sub_cons rfl ?_)
                                      · exact inferInstance
                                  · intro g18_34
                                    refine s_no rfl rfl rfl rfl (s_no rfl rfl rfl rfl (s_yes rfl rfl (s_val rfl (v_pick_f rfl rfl) (s_val rfl (v_pick_f rfl rfl) (x_nil (n_then (x_iff rfl (x_skip (n_block (n_then (x_region (s_val rfl (v_move rfl) ?_))))))))))))
                                    refine s_val rfl (v_add rfl rfl (by first | exact w64 (by omega) | rfl)) ?_
                                    refine s_val rfl (v_assign rfl) (x_nil (n_then ?_))
                                    refine inv_intro (j + 1, its5, T5) ?_ ?_ ?_ ?_
                                    · exact ⟨hj1, hR5, hT5, h5⟩
                                    · omega
                                    · repeat (first | exact sub_nil | refine sub_cons rfl ?_)
                                    · exact inferInstance
                              · intro g18_22
                                refine s_no rfl rfl rfl rfl (s_no rfl rfl rfl rfl (s_no rfl rfl rfl rfl (s_yes rfl rfl (s_val rfl (v_pick_f rfl rfl) (s_val rfl (v_pick_f rfl rfl) (s_val rfl (v_move rfl) (s_yes rfl rfl ?_)))))))
                                refine s_val rfl (v_fieldAddr rfl Tryz.underlying66 rfl Tryz.sizeOf3 rfl (by first | exact Nat.zero_add _ | rfl)) ?_
                                refine s_yes rfl rfl (s_val rfl (v_load Tryz.isAgg3 rfl (cell_own rfl)) ?_)
                                refine s_yes rfl rfl (s_val rfl (v_and rfl rfl rfl) ?_)
                                refine s_yes rfl rfl (s_val rfl (v_neq rfl rfl) (s_yes rfl rfl (s_val rfl (v_move rfl) ?_)))
                                refine s_and rfl rfl rfl ?_ ?_
                                · intro g18_34
                                  refine s_val rfl (v_fieldAddr rfl Tryz.underlying66 rfl Tryz.sizeOf3 rfl (by first | exact Nat.zero_add _ | rfl)) ?_
                                  refine s_yes rfl rfl (s_val rfl (v_load Tryz.isAgg3 rfl (cell_own rfl)) ?_)
                                  refine s_yes rfl rfl (s_val rfl (v_geq rfl rfl) (s_yes rfl rfl (s_val rfl (v_pick_t rfl rfl) (s_val rfl (v_pick_f rfl rfl) (x_nil (n_then ?_))))))
                                  refine x_if rfl ?_ ?_
                                  · intro c18
                                    first | cases c18 | exact absurd (hw4 g18_34) (by omega) | exact absurd c18 (by simp)
                                  · intro c18
                                    refine x_skip (n_block (n_then (x_region (s_val rfl (v_move rfl) ?_))))
                                    refine s_val rfl (v_add rfl rfl (by first | exact w64 (by omega) | rfl)) ?_
                                    refine s_val rfl (v_assign rfl) (x_nil (n_then ?_))
                                    refine inv_intro (j + 1, its5, T5) ?_ ?_ ?_ ?_
                                    · exact ⟨hj1, hR5, hT5, h5⟩
                                    · omega
                                    · repeat (first | exact sub_nil | refine sub_cons rfl ?_)
                                    · exact inferInstance
                                · intro g18_34
                                  refine s_no rfl rfl rfl rfl (s_no rfl rfl rfl rfl (s_yes rfl rfl (s_val rfl (v_pick_f rfl rfl) (s_val rfl (v_pick_f rfl rfl) (x_nil (n_then (x_iff rfl (x_skip (n_block (n_then (x_region (s_val rfl (v_move rfl) ?_))))))))))))
                                  refine s_val rfl (v_add rfl rfl (by first | exact w64 (by omega) | rfl)) ?_
                                  refine s_val rfl (v_assign rfl) (x_nil (n_then ?_))
                                  refine inv_intro (j + 1, its5, T5) ?_ ?_ ?_ ?_
                                  · exact ⟨hj1, hR5, hT5, h5⟩
                                  · omega
                                  · repeat (first | exact sub_nil | refine sub_cons rfl ?_)
                                  · exact inferInstance
                        · intro g18_5
                          refine s_no rfl rfl rfl rfl (s_no rfl rfl rfl rfl (s_no rfl rfl rfl rfl (s_no rfl rfl rfl rfl (s_nou rfl rfl rfl (s_nou rfl rfl rfl (s_nou rfl rfl rfl (s_nou rfl rfl rfl (s_no rfl rfl rfl rfl (s_val rfl (v_pick_f rfl rfl) (s_val rfl (v_move rfl) (s_yes rfl rfl ?_)))))))))))
                          refine s_val rfl (v_fieldAddr rfl Tryz.underlying66 rfl Tryz.sizeOf3 rfl (by first | exact Nat.zero_add _ | rfl)) ?_
                          refine s_yes rfl rfl (s_val rfl (v_load Tryz.isAgg3 rfl (cell_own rfl)) ?_)
                          refine s_yes rfl rfl (s_val rfl (v_and rfl rfl rfl) ?_)
                          refine s_yes rfl rfl (s_val rfl (v_neq rfl rfl) (s_yes rfl rfl (s_val rfl (v_move rfl) ?_)))
                          refine s_and rfl rfl rfl ?_ ?_
                          · intro g18_22
                            refine s_val rfl (v_fieldAddr rfl Tryz.underlying70 rfl Tryz.sizeOf3 rfl (by first | exact Nat.zero_add _ | rfl)) ?_
                            refine s_yes rfl rfl (s_val rfl (v_load Tryz.isAgg3 rfl (cell_own rfl)) ?_)
                            refine s_yes rfl rfl (s_val rfl (v_and rfl rfl rfl) ?_)
                            refine s_yes rfl rfl (s_val rfl (v_eql rfl rfl) (s_yes rfl rfl (s_val rfl (v_pick_t rfl rfl) (s_val rfl (v_pick_f rfl rfl) (s_val rfl (v_move rfl) ?_)))))
                            refine s_or rfl rfl rfl ?_ ?_
                            · intro g18_29
                              first | cases g18_29 | exact absurd g18_29 (hw1 g18_22) | exact absurd g18_29 (by simp)
                            · intro g18_29
                              refine s_val rfl (v_fieldAddr rfl Tryz.underlying66 rfl Tryz.sizeOf3 rfl (by first | exact Nat.zero_add _ | rfl)) ?_
                              refine s_yes rfl rfl (s_val rfl (v_load Tryz.isAgg3 rfl (cell_own rfl)) ?_)
                              refine s_yes rfl rfl (s_val rfl (v_and rfl rfl rfl) ?_)
                              refine s_yes rfl rfl (s_val rfl (v_neq rfl rfl) (s_yes rfl rfl (s_val rfl (v_move rfl) ?_)))
                              refine s_and rfl rfl rfl ?_ ?_
                              · intro g18_34
                                refine s_val rfl (v_fieldAddr rfl Tryz.underlying66 rfl Tryz.sizeOf3 rfl (by first | exact Nat.zero_add _ | rfl)) ?_
                                refine s_yes rfl rfl (s_val rfl (v_load Tryz.isAgg3 rfl (cell_own rfl)) ?_)
                                refine s_yes rfl rfl (s_val rfl (v_geq rfl rfl) (s_yes rfl rfl (s_val rfl (v_pick_t rfl rfl) (s_val rfl (v_pick_f rfl rfl) (x_nil (n_then ?_))))))
                                refine x_if rfl ?_ ?_
                                · intro c18
                                  first | cases c18 | exact absurd (hw4 g18_34) (by omega) | exact absurd c18 (by simp)
                                · intro c18
                                  refine x_skip (n_block (n_then (x_region (s_val rfl (v_move rfl) ?_))))
                                  refine s_val rfl (v_add rfl rfl (by first | exact w64 (by omega) | rfl)) ?_
                                  refine s_val rfl (v_assign rfl) (x_nil (n_then ?_))
                                  refine inv_intro (j + 1, its4, T4) ?_ ?_ ?_ ?_
                                  · exact ⟨hj1, hR4, hT4, h4⟩
                                  · omega
                                  · repeat (first | exact sub_nil | refine sub_cons rfl ?_)
                                  · exact inferInstance
                              · intro g18_34
                                refine s_no rfl rfl rfl rfl (s_no rfl rfl rfl rfl (s_yes rfl rfl (s_val rfl (v_pick_f rfl rfl) (s_val rfl (v_pick_f rfl rfl) (x_nil (n_then (x_iff rfl (x_skip (n_block (n_then (x_region (s_val rfl (v_move rfl) ?_))))))))))))
                                refine s_val rfl (v_add rfl rfl (by first | exact w64 (by omega) | rfl)) ?_
                                refine s_val rfl (v_assign rfl) (x_nil (n_then ?_))
                                refine inv_intro (j + 1, its4, T4) ?_ ?_ ?_ ?_
                                · exact ⟨hj1, hR4, hT4, h4⟩
                                · omega
                                · repeat (first | exact sub_nil | refine sub_cons rfl ?_)
                                · exact inferInstance
                          · intro g18_22
                            refine s_no rfl rfl rfl rfl (s_no rfl rfl rfl rfl (s_no rfl rfl rfl rfl (s_yes rfl rfl (s_val rfl (v_pick_f rfl rfl) (s_val rfl (v_pick_f rfl rfl) (s_val rfl (v_move rfl) (s_yes rfl rfl ?_)))))))
                            refine s_val rfl (v_fieldAddr rfl Tryz.underlying66 rfl Tryz.sizeOf3 rfl (by first | exact Nat.zero_add _ | rfl)) ?_
                            refine s_yes rfl rfl (s_val rfl (v_load Tryz.isAgg3 rfl (cell_own rfl)) ?_)
                            refine s_yes rfl rfl (s_val rfl (v_and rfl rfl rfl) ?_)
                            refine s_yes rfl rfl (s_val rfl (v_neq rfl rfl) (s_yes rfl rfl (s_val rfl (v_move rfl) ?_)))
                            refine s_and rfl rfl rfl ?_ ?_
                            · intro g18_34
                              refine s_val rfl (v_fieldAddr rfl Tryz.underlying66 rfl Tryz.sizeOf3 rfl (by first | exact Nat.zero_add _ | rfl)) ?_
                              refine s_yes rfl rfl (s_val rfl (v_load Tryz.isAgg3 rfl (cell_own rfl)) ?_)
                              refine s_yes rfl rfl (s_val rfl (v_geq rfl rfl) (s_yes rfl rfl (s_val rfl (v_pick_t rfl rfl) (s_val rfl (v_pick_f rfl rfl) (x_nil (n_then ?_))))))
                              refine x_if rfl ?_ ?_
                              · intro c18
                                first | cases c18 | exact absurd (hw4 g18_34) (by omega) | exact absurd c18 (by simp)
                              · intro c18
                                refine x_skip (n_block (n_then (x_region (s_val rfl (v_move rfl) ?_))))
                                refine s_val rfl (v_add rfl rfl (by first | exact w64 (by omega) | rfl)) ?_
                                refine s_val rfl (v_assign rfl) (x_nil (n_then ?_))
                                refine inv_intro (j + 1, its4, T4) ?_ ?_ ?_ ?_
                                · exact ⟨hj1, hR4, hT4, h4⟩
                                · omega
                                · repeat (first | exact sub_nil | refine sub_cons rfl ?_)
                                · exact inferInstance
                            · intro g18_34
                              refine s_no rfl rfl rfl rfl (s_no rfl rfl rfl rfl (s_yes rfl rfl (s_val rfl (v_pick_f rfl rfl) (s_val rfl (v_pick_f rfl rfl) (x_nil (n_then (x_iff rfl (x_skip (n_block (n_then (x_region (s_val rfl (v_move rfl) ?_))))))))))))
                              refine s_val rfl (v_add rfl rfl (by first | exact w64 (by omega) | rfl)) ?_
                              refine s_val rfl (v_assign rfl) (x_nil (n_then ?_))
                              refine inv_intro (j + 1, its4, T4) ?_ ?_ ?_ ?_
                              · exact ⟨hj1, hR4, hT4, h4⟩
                              · omega
                              · repeat (first | exact sub_nil | refine sub_cons rfl ?_)
                              · exact inferInstance
                · intro c12
                  refine x_exit (e_then (e_then (e_block (n_block (n_then (x_region (s_val rfl (v_move rfl) ?_)))))))
                  refine s_val rfl (v_add rfl rfl (by first | exact w64 (by omega) | rfl)) ?_
                  refine s_val rfl (v_assign rfl) (x_nil (n_then ?_))
                  refine inv_intro (i + 1, its4, T4, L3, now2, 0, e, fr, pg) ?_ ?_ ?_ ?_
                  · exact ⟨hi40, hR4, hT4, h4, by dsimp only; omega⟩
                  · omega
                  · repeat (first | exact sub_nil | refine sub_cons rfl ?_)
                  · exact inferInstance
            · intro c5
              refine x_exit (e_then (e_then (e_block (n_then ?_))))
              refine mid_intro () ?_ ?_ ?_
              · trivial
              · repeat (first | exact sub_nil | refine sub_cons rfl ?_)
              · exact inferInstance
          · intro g5_5
            refine s_no rfl rfl rfl rfl (s_val rfl (v_pick_f rfl rfl) (x_nil (n_then (x_iff rfl (x_exit (e_then (e_then (e_block (n_then ?_)))))))))
            refine mid_intro () ?_ ?_ ?_
            · trivial
            · repeat (first | exact sub_nil | refine sub_cons rfl ?_)
            · exact inferInstance
      · intro _ _
        refine x_seq (x_region (s_do rfl (d_call Tryz.call11 rfl (awake20_spec W0 _ hK)) ?_))
        rintro _ B_ ⟨rfl, hB_⟩
        obtain rfl := hB_.symm
        refine s_val rfl (v_assign rfl) (x_nil (n_then (x_ret (x_done (.inl rfl) (.cons (r_tmp rfl) .nil) ?_))))
        exact ⟨[], rfl, inferInstance⟩
end Go.Proofs.YtllkdnadmmjehaaGreatDoor
