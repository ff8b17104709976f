/-
  Layer 18 (stlb): Put, Get and Drop, by the list.
-/
import Derived.Test.YtechkfopkpkigaaStlbC
import Derived.Test.YtechkfopkpkigaaTlb
namespace Go.Proofs.Ytechkfopkpkigaa
open Go.RowKit
set_option linter.unusedSimpArgs false
set_option linter.unusedVariables false
set_option maxRecDepth 20000

@[reducible] def tlV (room now : Nat) : List Value := [.int .i64 room, .int .i64 now, .bool true]

theorem Put_spec18 (W0 : World) (R : List HP) (b : Nat) (its : List It) (room now : Nat) (L : List It) (k : Key) (e : Ent3) (hR : Rep its now L) (hL : L.length ≤ room) (hr : room ≤ 4) (hn : now < 1000000) :
    Spec Try.prog W0 29 [.pointer (some ⟨b, 0, none⟩), .agg (keyV k).toArray, .agg (entV e).toArray] (rowH b (its, tlV room now) :: R)
      (fun v B => v = .int .i64 0 ∧ ∃ its', B = rowH b (its', tlV room (now + 1)) :: R ∧ Rep its' (now + 1) (putL room now k e L)) := by
  have hlen := hR.length
  refine spec_body Try.func29 Try.ntmps29 rfl rfl ?_
  refine x_seq ?_
  refine x_region ?_
  refine s_do rfl (d_boxA rfl) ?_
  rintro _ _ ⟨b1, rfl, rfl⟩
  refine s_do rfl (d_boxA rfl) ?_
  rintro _ _ ⟨b2, rfl, rfl⟩
  refine s_val rfl (v_assign rfl) ?_
  refine x_nil ?_
  refine n_then ?_
  refine x_seq ?_
  refine x_seq ?_
  refine x_region ?_
  refine s_val rfl (v_move rfl) ?_
  refine s_do rfl (d_call1 Try.call86 rfl (none_spec W0 _ b its _ _)) ?_
  rintro _ B_ ⟨rfl, hB_⟩
  obtain rfl := hB_.symm
  refine x_nil ?_
  refine n_then ?_
  refine x_if rfl ?_ ?_
  · intro c1
    exact absurd c1 (by decide)
  · intro c1
    refine x_skip ?_
    refine n_then ?_
    refine x_seq ?_
    refine x_draw [(b1, 0, _), (b2, 0, _)] 8 mixed rfl (sc_own (sc_own sc_end)) (fun hS => ?_)
    refine d_take 0 rfl rfl (by kernel_rfl) (by kernel_rfl) (by kernel_rfl) rfl hS (v_loadAgg Try.isAgg73 Try.sizeOf73 rfl (by first | exact cells_sc (k := 0) rfl | exact cells_sc (k := 1) rfl) rfl) ?_
    refine d_take 1 rfl rfl (by kernel_rfl) (by kernel_rfl) (by kernel_rfl) rfl hS (v_loadAgg Try.isAgg75 Try.sizeOf75 rfl (by first | exact cells_sc (k := 0) rfl | exact cells_sc (k := 1) rfl) rfl) ?_
    refine d_take 2 rfl rfl (by kernel_rfl) (by kernel_rfl) (by kernel_rfl) rfl hS (v_build Try.underlying80 Try.zeroValue80 (sized_cons Try.sizeOf73 (sized_cons Try.sizeOf75 sized_nil)) (fil_agg rfl Try.sizeOf73 rfl rfl (Nat.le_of_ble_eq_true rfl) SetRL.eq (fil_agg rfl Try.sizeOf75 rfl rfl (Nat.le_of_ble_eq_true rfl) SetRL.eq fil_nil))) ?_
    refine d_take 3 rfl rfl (by kernel_rfl) (by kernel_rfl) (by kernel_rfl) rfl hS (v_move rfl) ?_
    refine d_all (is := [4, 6]) (by kernel_rfl) rfl ⟨?_, ?_, trivial⟩
    · skip
      refine dx_one rfl rfl (d_call1 Try.call87 rfl (tick_spec W0 _ b its _ now hn)) rfl ?_; clear hS
      rintro _ B_ ⟨rfl, hB_⟩
      obtain rfl := hB_.symm
      refine ⟨(sc_own (sc_own sc_end)), fun hS => ?_⟩
      refine d_take 5 rfl rfl (by kernel_rfl) (by kernel_rfl) (by kernel_rfl) rfl hS (v_build Try.underlying171 Try.zeroValue171 (sized_cons Try.sizeOf80 (sized_cons Try.sizeOf3 sized_nil)) (fil_agg rfl Try.sizeOf80 rfl rfl (Nat.le_of_ble_eq_true rfl) SetRL.eq (fil_scal rfl Try.sizeOf3 rfl rfl (Nat.le_of_ble_eq_true rfl) SetL.eq fil_nil))) ?_
      refine d_one 6 (by kernel_rfl) rfl rfl (d_allocA Try.zeroValue171) rfl ?_; clear hS
      rintro _ _ ⟨b3, rfl, rfl⟩
      refine ⟨(sc_own (sc_own sc_end)), fun hS => ?_⟩
      refine d_one 7 (by kernel_rfl) rfl rfl (d_storeAll Try.sizeOf171 rfl rfl rfl rfl rfl) rfl ?_; clear hS
      rintro _ _ rfl
      refine ⟨(sc_own (sc_own sc_end)), fun hS => ?_⟩
      refine d_done (by kernel_rfl) ?_; clear hS
      refine n_then ?_
      refine x_seq ?_
      refine x_seq ?_
      refine x_region ?_
      refine s_val rfl (v_move rfl) ?_
      refine s_val rfl (v_loadAll Try.isAgg73 Try.sizeOf73 rfl rfl) ?_
      refine s_do rfl (d_call1 Try.call88 rfl (at_spec W0 _ b its _ k (by omega))) ?_
      rintro _ _ ⟨r, rfl, rfl, hf⟩
      refine s_val rfl (v_assign rfl) ?_
      refine x_nil ?_
      refine n_then ?_
      refine x_seq ?_
      refine x_region ?_
      refine s_val rfl (v_move rfl) ?_
      refine s_val rfl (v_geq rfl rfl) ?_
      refine x_nil ?_
      refine n_then ?_
      refine x_if rfl ?_ ?_
      · intro c5
        obtain ⟨i, rfl, hi, hk⟩ : ∃ i : Nat, r = (i : Int) ∧ i < its.length ∧ (its.getD i default).key = k := by
          rcases hf with ⟨h, _⟩ | h
          · omega
          · exact h
        refine x_seq ?_
        refine run_rowN (b := b) (pos_ne hi) fun g c sp h1 h2 h3 => ?_
        refine x_draw [(b, 0, _), (b3, 0, _)] 9 mixed rfl (sc_own (sc_own sc_end)) (fun hS => ?_)
        refine d_take 0 rfl rfl (by kernel_rfl) (by kernel_rfl) (by kernel_rfl) rfl hS (v_move rfl) ?_
        refine d_take 1 rfl rfl (by kernel_rfl) (by kernel_rfl) (by kernel_rfl) rfl hS (v_nilCheck rfl) ?_
        refine d_take 2 rfl rfl (by kernel_rfl) (by kernel_rfl) (by kernel_rfl) rfl hS (v_fieldAddr rfl Try.underlying87 rfl Try.sizeOf85 rfl (by first | exact Nat.zero_add _ | rfl)) ?_
        refine d_take 3 rfl rfl (by kernel_rfl) (by kernel_rfl) (by kernel_rfl) rfl hS (v_fieldAddr rfl Try.underlying85 rfl Try.sizeOf83 rfl (by first | exact Nat.zero_add _ | rfl)) ?_
        refine d_take 4 rfl rfl (by kernel_rfl) (by kernel_rfl) (by kernel_rfl) rfl hS (v_load Try.isAgg83 rfl (by first | exact cell_sc0 (k := 0) rfl rfl | exact cell_sc0 (k := 1) rfl rfl)) ?_
        refine d_take 5 rfl rfl (by kernel_rfl) (by kernel_rfl) (by kernel_rfl) rfl hS (v_move rfl) ?_
        refine d_take 6 rfl rfl (by kernel_rfl) (by kernel_rfl) (by kernel_rfl) rfl hS (v_loadAgg Try.isAgg171 Try.sizeOf171 rfl (by first | exact cells_sc (k := 0) rfl | exact cells_sc (k := 1) rfl) rfl) ?_
        refine d_take 7 rfl rfl (by kernel_rfl) (by kernel_rfl) (by kernel_rfl) rfl hS (v_idx Try.underlying83 Try.sizeOf171 rfl rfl rfl hi (by first | exact Nat.zero_add _ | rfl)) ?_
        refine d_one 8 (by kernel_rfl) rfl rfl (d_storeAgg Try.sizeOf171 rfl rfl rfl rfl (item_bd its sp i hi) (item_set its sp i (mkIt k e (now + 1 : Nat)) hi)) rfl ?_; clear hS
        rintro _ _ rfl
        refine ⟨(sc_own (sc_own sc_end)), fun hS => ?_⟩
        refine d_done (by kernel_rfl) ?_; clear hS
        refine n_then ?_
        refine x_seq ?_
        refine run_shut (b := b) (its := its.set i (mkIt k e (now + 1 : Nat))) rfl (by simp) h1 h2 (by simpa [flat_len itemV_len] using h3) ?_
        refine x_region ?_
        refine s_val rfl (v_move rfl) ?_
        refine s_val rfl (v_nilCheck rfl) ?_
        refine s_val rfl (v_fieldAddr rfl Try.underlying87 rfl Try.sizeOf85 rfl (by first | exact Nat.zero_add _ | rfl)) ?_
        refine s_val rfl (v_mkI Try.underlying174 (fun _ h => nomatch h) rfl) ?_
        refine s_val rfl (v_move rfl) ?_
        refine s_do rfl (d_call1 Try.call89 rfl (heapFix_spec W0 _ b (its.set i (mkIt k e (now + 1 : Nat))) _ i (by simp; omega) (by simpa using hi) (by rw [List.length_set]; exact set_hole hR.heap hi))) ?_
        rintro _ _ ⟨rfl, its', rfl, hp, hh⟩
        refine x_nil ?_
        refine n_then ?_
        refine x_seq ?_
        refine x_region ?_
        refine s_val rfl (v_assign rfl) ?_
        refine x_nil ?_
        refine n_then ?_
        refine x_ret ?_
        refine r_then ?_
        refine x_done (.inl rfl) (.cons (r_tmp rfl) .nil) ?_
        refine ⟨_, ⟨rfl, its', rfl, ?_⟩, inferInstance⟩
        have hlt := without_lt (hR.someI hi hk)
        rw [putL, if_neg (by rw [putBack_len]; omega)]
        exact hR.setI hi hk rfl (by simp [mkIt]) hp (by rw [hp.length_eq]; exact hh)
      · intro c5
        have hno : ∀ x ∈ its, x.key ≠ k := by
          rcases hf with ⟨_, h⟩ | ⟨i, h, _⟩
          · exact h
          · omega
        refine x_skip ?_
        refine n_then ?_
        refine x_seq ?_
        refine x_draw [(b3, 0, _)] 7 mixed rfl (sc_own sc_end) (fun hS => ?_)
        refine d_take 0 rfl rfl (by kernel_rfl) (by kernel_rfl) (by kernel_rfl) rfl hS (v_move rfl) ?_
        refine d_take 1 rfl rfl (by kernel_rfl) (by kernel_rfl) (by kernel_rfl) rfl hS (v_nilCheck rfl) ?_
        refine d_take 2 rfl rfl (by kernel_rfl) (by kernel_rfl) (by kernel_rfl) rfl hS (v_fieldAddr rfl Try.underlying87 rfl Try.sizeOf85 rfl (by first | exact Nat.zero_add _ | rfl)) ?_
        refine d_take 3 rfl rfl (by kernel_rfl) (by kernel_rfl) (by kernel_rfl) rfl hS (v_mkI Try.underlying174 (fun _ h => nomatch h) rfl) ?_
        refine d_take 4 rfl rfl (by kernel_rfl) (by kernel_rfl) (by kernel_rfl) rfl hS (v_loadAgg Try.isAgg171 Try.sizeOf171 rfl (cells_sc (k := 0) rfl) rfl) ?_
        refine d_take 5 rfl rfl (by kernel_rfl) (by kernel_rfl) (by kernel_rfl) rfl hS (v_mkI Try.underlying171 (fun _ h => nomatch h) rfl) ?_
        refine d_one 6 (by kernel_rfl) rfl rfl (d_call1 Try.call90 rfl (heapPush_spec W0 _ b its (mkIt k e (now + 1 : Nat)) _ (by omega) hR.heap)) rfl ?_; clear hS
        rintro _ _ ⟨rfl, its1, rfl, hp, hh⟩
        have hR1 := hR.pushI hno (x := mkIt k e (now + 1 : Nat)) rfl (by simp [mkIt]) hp hh
        have hlen1 := hR1.length
        have hpl : its1.length = its.length + 1 := by rw [hp.length_eq]; simp
        refine ⟨(sc_own sc_end), fun hS => ?_⟩
        refine d_done (by kernel_rfl) ?_; clear hS
        refine n_then ?_
        refine x_seq ?_
        refine x_seq ?_
        refine x_draw [(b, 1, tlV room (now + 1))] 9 mixed rfl (sc_cons cells_row sc_end) (fun hS => ?_)
        refine d_take 0 rfl rfl (by kernel_rfl) (by kernel_rfl) (by kernel_rfl) rfl hS (v_move rfl) ?_
        refine d_take 1 rfl rfl (by kernel_rfl) (by kernel_rfl) (by kernel_rfl) rfl hS (v_nilCheck rfl) ?_
        refine d_take 2 rfl rfl (by kernel_rfl) (by kernel_rfl) (by kernel_rfl) rfl hS (v_fieldAddr rfl Try.underlying87 rfl Try.sizeOf85 rfl (by first | exact Nat.zero_add _ | rfl)) ?_
        refine d_take 4 rfl rfl (by kernel_rfl) (by kernel_rfl) (by kernel_rfl) rfl hS (v_move rfl) ?_
        refine d_take 5 rfl rfl (by kernel_rfl) (by kernel_rfl) (by kernel_rfl) rfl hS (v_nilCheck rfl) ?_
        refine d_take 6 rfl rfl (by kernel_rfl) (by kernel_rfl) (by kernel_rfl) rfl hS (v_fieldAddr rfl Try.underlying87 rfl Try.sizeOf3 rfl (by first | exact Nat.zero_add _ | rfl)) ?_
        refine d_take 7 rfl rfl (by kernel_rfl) (by kernel_rfl) (by kernel_rfl) rfl hS (v_load Try.isAgg3 rfl (cell_sc (k := 0) (j := 0) rfl rfl)) ?_
        refine d_one 3 (by kernel_rfl) rfl rfl (d_call1 Try.call91 rfl (rowLen_spec W0 _ b its1 _)) rfl ?_; clear hS
        rintro _ B_ ⟨rfl, hB_⟩
        obtain rfl := hB_.symm
        refine ⟨(sc_cons cells_row sc_end), fun hS => ?_⟩
        refine d_take 8 rfl rfl (by kernel_rfl) (by kernel_rfl) (by kernel_rfl) rfl hS (v_gtr rfl rfl) ?_
        refine d_done (by kernel_rfl) ?_; clear hS
        refine n_then ?_
        refine x_if rfl ?_ ?_
        · intro c10
          refine x_region ?_
          refine s_val rfl (v_move rfl) ?_
          refine s_val rfl (v_nilCheck rfl) ?_
          refine s_val rfl (v_fieldAddr rfl Try.underlying87 rfl Try.sizeOf85 rfl (by first | exact Nat.zero_add _ | rfl)) ?_
          refine s_val rfl (v_mkI Try.underlying174 (fun _ h => nomatch h) rfl) ?_
          refine s_do rfl (d_call1 Try.call92 rfl (heapPop_spec W0 _ b its1 _ (by omega) (pos_ne (i := 0) (by omega)) hh)) ?_
          rintro _ _ ⟨y, its2, rfl, rfl, hp2, hh2, hmin⟩
          have hfin : Rep its2 (now + 1) (putL room now k e L) := by
            rw [putL, if_pos (by omega)]; exact hR1.popI hp2 hh2 hmin
          refine x_nil ?_
          refine n_then ?_
          refine x_seq ?_
          refine x_region ?_
          refine s_val rfl (v_assign rfl) ?_
          refine x_nil ?_
          refine n_then ?_
          refine x_ret ?_
          refine x_done (.inl rfl) (.cons (r_tmp rfl) .nil) ?_
          exact ⟨_, ⟨rfl, _, rfl, hfin⟩, inferInstance⟩
        · intro c10
          have hfin : Rep its1 (now + 1) (putL room now k e L) := by
            rw [putL, if_neg (by omega)]; exact hR1
          refine x_skip ?_
          refine n_then ?_
          refine x_seq ?_
          refine x_region ?_
          refine s_val rfl (v_assign rfl) ?_
          refine x_nil ?_
          refine n_then ?_
          refine x_ret ?_
          refine x_done (.inl rfl) (.cons (r_tmp rfl) .nil) ?_
          exact ⟨_, ⟨rfl, _, rfl, hfin⟩, inferInstance⟩
    · skip
      refine dx_one rfl rfl (d_allocA Try.zeroValue171) rfl ?_; clear hS
      rintro _ _ ⟨b3, rfl, rfl⟩
      refine ⟨(sc_own (sc_own sc_end)), fun hS => ?_⟩
      refine d_one 4 (by kernel_rfl) rfl rfl (d_call1 Try.call87 rfl (tick_spec W0 _ b its _ now hn)) rfl ?_; clear hS
      rintro _ B_ ⟨rfl, hB_⟩
      obtain rfl := hB_.symm
      refine ⟨(sc_own (sc_own sc_end)), fun hS => ?_⟩
      refine d_take 5 rfl rfl (by kernel_rfl) (by kernel_rfl) (by kernel_rfl) rfl hS (v_build Try.underlying171 Try.zeroValue171 (sized_cons Try.sizeOf80 (sized_cons Try.sizeOf3 sized_nil)) (fil_agg rfl Try.sizeOf80 rfl rfl (Nat.le_of_ble_eq_true rfl) SetRL.eq (fil_scal rfl Try.sizeOf3 rfl rfl (Nat.le_of_ble_eq_true rfl) SetL.eq fil_nil))) ?_
      refine d_one 7 (by kernel_rfl) rfl rfl (d_storeAll Try.sizeOf171 rfl rfl rfl rfl rfl) rfl ?_; clear hS
      rintro _ _ rfl
      refine ⟨(sc_own (sc_own sc_end)), fun hS => ?_⟩
      refine d_done (by kernel_rfl) ?_; clear hS
      refine n_then ?_
      refine x_seq ?_
      refine x_seq ?_
      refine x_region ?_
      refine s_val rfl (v_move rfl) ?_
      refine s_val rfl (v_loadAll Try.isAgg73 Try.sizeOf73 rfl rfl) ?_
      refine s_do rfl (d_call1 Try.call88 rfl (at_spec W0 _ b its _ k (by omega))) ?_
      rintro _ _ ⟨r, rfl, rfl, hf⟩
      refine s_val rfl (v_assign rfl) ?_
      refine x_nil ?_
      refine n_then ?_
      refine x_seq ?_
      refine x_region ?_
      refine s_val rfl (v_move rfl) ?_
      refine s_val rfl (v_geq rfl rfl) ?_
      refine x_nil ?_
      refine n_then ?_
      refine x_if rfl ?_ ?_
      · intro c5
        obtain ⟨i, rfl, hi, hk⟩ : ∃ i : Nat, r = (i : Int) ∧ i < its.length ∧ (its.getD i default).key = k := by
          rcases hf with ⟨h, _⟩ | h
          · omega
          · exact h
        refine x_seq ?_
        refine run_rowN (b := b) (pos_ne hi) fun g c sp h1 h2 h3 => ?_
        refine x_draw [(b, 0, _), (b3, 0, _)] 9 mixed rfl (sc_own (sc_own sc_end)) (fun hS => ?_)
        refine d_take 0 rfl rfl (by kernel_rfl) (by kernel_rfl) (by kernel_rfl) rfl hS (v_move rfl) ?_
        refine d_take 1 rfl rfl (by kernel_rfl) (by kernel_rfl) (by kernel_rfl) rfl hS (v_nilCheck rfl) ?_
        refine d_take 2 rfl rfl (by kernel_rfl) (by kernel_rfl) (by kernel_rfl) rfl hS (v_fieldAddr rfl Try.underlying87 rfl Try.sizeOf85 rfl (by first | exact Nat.zero_add _ | rfl)) ?_
        refine d_take 3 rfl rfl (by kernel_rfl) (by kernel_rfl) (by kernel_rfl) rfl hS (v_fieldAddr rfl Try.underlying85 rfl Try.sizeOf83 rfl (by first | exact Nat.zero_add _ | rfl)) ?_
        refine d_take 4 rfl rfl (by kernel_rfl) (by kernel_rfl) (by kernel_rfl) rfl hS (v_load Try.isAgg83 rfl (by first | exact cell_sc0 (k := 0) rfl rfl | exact cell_sc0 (k := 1) rfl rfl)) ?_
        refine d_take 5 rfl rfl (by kernel_rfl) (by kernel_rfl) (by kernel_rfl) rfl hS (v_move rfl) ?_
        refine d_take 6 rfl rfl (by kernel_rfl) (by kernel_rfl) (by kernel_rfl) rfl hS (v_loadAgg Try.isAgg171 Try.sizeOf171 rfl (by first | exact cells_sc (k := 0) rfl | exact cells_sc (k := 1) rfl) rfl) ?_
        refine d_take 7 rfl rfl (by kernel_rfl) (by kernel_rfl) (by kernel_rfl) rfl hS (v_idx Try.underlying83 Try.sizeOf171 rfl rfl rfl hi (by first | exact Nat.zero_add _ | rfl)) ?_
        refine d_one 8 (by kernel_rfl) rfl rfl (d_storeAgg Try.sizeOf171 rfl rfl rfl rfl (item_bd its sp i hi) (item_set its sp i (mkIt k e (now + 1 : Nat)) hi)) rfl ?_; clear hS
        rintro _ _ rfl
        refine ⟨(sc_own (sc_own sc_end)), fun hS => ?_⟩
        refine d_done (by kernel_rfl) ?_; clear hS
        refine n_then ?_
        refine x_seq ?_
        refine run_shut (b := b) (its := its.set i (mkIt k e (now + 1 : Nat))) rfl (by simp) h1 h2 (by simpa [flat_len itemV_len] using h3) ?_
        refine x_region ?_
        refine s_val rfl (v_move rfl) ?_
        refine s_val rfl (v_nilCheck rfl) ?_
        refine s_val rfl (v_fieldAddr rfl Try.underlying87 rfl Try.sizeOf85 rfl (by first | exact Nat.zero_add _ | rfl)) ?_
        refine s_val rfl (v_mkI Try.underlying174 (fun _ h => nomatch h) rfl) ?_
        refine s_val rfl (v_move rfl) ?_
        refine s_do rfl (d_call1 Try.call89 rfl (heapFix_spec W0 _ b (its.set i (mkIt k e (now + 1 : Nat))) _ i (by simp; omega) (by simpa using hi) (by rw [List.length_set]; exact set_hole hR.heap hi))) ?_
        rintro _ _ ⟨rfl, its', rfl, hp, hh⟩
        refine x_nil ?_
        refine n_then ?_
        refine x_seq ?_
        refine x_region ?_
        refine s_val rfl (v_assign rfl) ?_
        refine x_nil ?_
        refine n_then ?_
        refine x_ret ?_
        refine r_then ?_
        refine x_done (.inl rfl) (.cons (r_tmp rfl) .nil) ?_
        refine ⟨_, ⟨rfl, its', rfl, ?_⟩, inferInstance⟩
        have hlt := without_lt (hR.someI hi hk)
        rw [putL, if_neg (by rw [putBack_len]; omega)]
        exact hR.setI hi hk rfl (by simp [mkIt]) hp (by rw [hp.length_eq]; exact hh)
      · intro c5
        have hno : ∀ x ∈ its, x.key ≠ k := by
          rcases hf with ⟨_, h⟩ | ⟨i, h, _⟩
          · exact h
          · omega
        refine x_skip ?_
        refine n_then ?_
        refine x_seq ?_
        refine x_draw [(b3, 0, _)] 7 mixed rfl (sc_own sc_end) (fun hS => ?_)
        refine d_take 0 rfl rfl (by kernel_rfl) (by kernel_rfl) (by kernel_rfl) rfl hS (v_move rfl) ?_
        refine d_take 1 rfl rfl (by kernel_rfl) (by kernel_rfl) (by kernel_rfl) rfl hS (v_nilCheck rfl) ?_
        refine d_take 2 rfl rfl (by kernel_rfl) (by kernel_rfl) (by kernel_rfl) rfl hS (v_fieldAddr rfl Try.underlying87 rfl Try.sizeOf85 rfl (by first | exact Nat.zero_add _ | rfl)) ?_
        refine d_take 3 rfl rfl (by kernel_rfl) (by kernel_rfl) (by kernel_rfl) rfl hS (v_mkI Try.underlying174 (fun _ h => nomatch h) rfl) ?_
        refine d_take 4 rfl rfl (by kernel_rfl) (by kernel_rfl) (by kernel_rfl) rfl hS (v_loadAgg Try.isAgg171 Try.sizeOf171 rfl (cells_sc (k := 0) rfl) rfl) ?_
        refine d_take 5 rfl rfl (by kernel_rfl) (by kernel_rfl) (by kernel_rfl) rfl hS (v_mkI Try.underlying171 (fun _ h => nomatch h) rfl) ?_
        refine d_one 6 (by kernel_rfl) rfl rfl (d_call1 Try.call90 rfl (heapPush_spec W0 _ b its (mkIt k e (now + 1 : Nat)) _ (by omega) hR.heap)) rfl ?_; clear hS
        rintro _ _ ⟨rfl, its1, rfl, hp, hh⟩
        have hR1 := hR.pushI hno (x := mkIt k e (now + 1 : Nat)) rfl (by simp [mkIt]) hp hh
        have hlen1 := hR1.length
        have hpl : its1.length = its.length + 1 := by rw [hp.length_eq]; simp
        refine ⟨(sc_own sc_end), fun hS => ?_⟩
        refine d_done (by kernel_rfl) ?_; clear hS
        refine n_then ?_
        refine x_seq ?_
        refine x_seq ?_
        refine x_draw [(b, 1, tlV room (now + 1))] 9 mixed rfl (sc_cons cells_row sc_end) (fun hS => ?_)
        refine d_take 0 rfl rfl (by kernel_rfl) (by kernel_rfl) (by kernel_rfl) rfl hS (v_move rfl) ?_
        refine d_take 1 rfl rfl (by kernel_rfl) (by kernel_rfl) (by kernel_rfl) rfl hS (v_nilCheck rfl) ?_
        refine d_take 2 rfl rfl (by kernel_rfl) (by kernel_rfl) (by kernel_rfl) rfl hS (v_fieldAddr rfl Try.underlying87 rfl Try.sizeOf85 rfl (by first | exact Nat.zero_add _ | rfl)) ?_
        refine d_take 4 rfl rfl (by kernel_rfl) (by kernel_rfl) (by kernel_rfl) rfl hS (v_move rfl) ?_
        refine d_take 5 rfl rfl (by kernel_rfl) (by kernel_rfl) (by kernel_rfl) rfl hS (v_nilCheck rfl) ?_
        refine d_take 6 rfl rfl (by kernel_rfl) (by kernel_rfl) (by kernel_rfl) rfl hS (v_fieldAddr rfl Try.underlying87 rfl Try.sizeOf3 rfl (by first | exact Nat.zero_add _ | rfl)) ?_
        refine d_take 7 rfl rfl (by kernel_rfl) (by kernel_rfl) (by kernel_rfl) rfl hS (v_load Try.isAgg3 rfl (cell_sc (k := 0) (j := 0) rfl rfl)) ?_
        refine d_one 3 (by kernel_rfl) rfl rfl (d_call1 Try.call91 rfl (rowLen_spec W0 _ b its1 _)) rfl ?_; clear hS
        rintro _ B_ ⟨rfl, hB_⟩
        obtain rfl := hB_.symm
        refine ⟨(sc_cons cells_row sc_end), fun hS => ?_⟩
        refine d_take 8 rfl rfl (by kernel_rfl) (by kernel_rfl) (by kernel_rfl) rfl hS (v_gtr rfl rfl) ?_
        refine d_done (by kernel_rfl) ?_; clear hS
        refine n_then ?_
        refine x_if rfl ?_ ?_
        · intro c10
          refine x_region ?_
          refine s_val rfl (v_move rfl) ?_
          refine s_val rfl (v_nilCheck rfl) ?_
          refine s_val rfl (v_fieldAddr rfl Try.underlying87 rfl Try.sizeOf85 rfl (by first | exact Nat.zero_add _ | rfl)) ?_
          refine s_val rfl (v_mkI Try.underlying174 (fun _ h => nomatch h) rfl) ?_
          refine s_do rfl (d_call1 Try.call92 rfl (heapPop_spec W0 _ b its1 _ (by omega) (pos_ne (i := 0) (by omega)) hh)) ?_
          rintro _ _ ⟨y, its2, rfl, rfl, hp2, hh2, hmin⟩
          have hfin : Rep its2 (now + 1) (putL room now k e L) := by
            rw [putL, if_pos (by omega)]; exact hR1.popI hp2 hh2 hmin
          refine x_nil ?_
          refine n_then ?_
          refine x_seq ?_
          refine x_region ?_
          refine s_val rfl (v_assign rfl) ?_
          refine x_nil ?_
          refine n_then ?_
          refine x_ret ?_
          refine x_done (.inl rfl) (.cons (r_tmp rfl) .nil) ?_
          exact ⟨_, ⟨rfl, _, rfl, hfin⟩, inferInstance⟩
        · intro c10
          have hfin : Rep its1 (now + 1) (putL room now k e L) := by
            rw [putL, if_neg (by omega)]; exact hR1
          refine x_skip ?_
          refine n_then ?_
          refine x_seq ?_
          refine x_region ?_
          refine s_val rfl (v_assign rfl) ?_
          refine x_nil ?_
          refine n_then ?_
          refine x_ret ?_
          refine x_done (.inl rfl) (.cons (r_tmp rfl) .nil) ?_
          exact ⟨_, ⟨rfl, _, rfl, hfin⟩, inferInstance⟩

def getV (k : Key) (L : List It) : Value := match findK k L with
  | none => .tuple #[.agg (entV (0, 0, 0)).toArray, .bool false]
  | some y => .tuple #[.agg (entV y.ent).toArray, .bool true]
theorem mkIt_upd (y : It) (u : Int) : mkIt y.key y.ent u = { y with u := u } := rfl
theorem Get_spec18 (W0 : World) (R : List HP) (b : Nat) (its : List It) (room now : Nat) (L : List It) (k : Key) (hR : Rep its now L) (hL : L.length ≤ room) (hr : room ≤ 4) (hn : now < 1000000) :
    Spec Try.prog W0 35 [.pointer (some ⟨b, 0, none⟩), .agg (keyV k).toArray] (rowH b (its, tlV room now) :: R)
      (fun v B => v = getV k L ∧ ∃ its' now', now' ≤ now + 1 ∧ B = rowH b (its', tlV room now') :: R ∧ Rep its' now' (getL now k L)) := by
  have hlen := hR.length
  refine spec_body Try.func35 Try.ntmps35 rfl rfl ?_
  refine x_seq ?_
  refine x_region ?_
  refine s_do rfl (d_boxA rfl) ?_
  rintro _ _ ⟨b1, rfl, rfl⟩
  refine s_do rfl (d_allocA Try.zeroValue75) ?_
  rintro _ _ ⟨b2, rfl, rfl⟩
  refine s_val rfl (v_assign rfl) ?_
  refine x_nil ?_
  refine n_then ?_
  refine x_seq ?_
  refine x_seq ?_
  refine x_region ?_
  refine s_val rfl (v_move rfl) ?_
  refine s_do rfl (d_call1 Try.call86 rfl (none_spec W0 _ b its _ _)) ?_
  rintro _ B_ ⟨rfl, hB_⟩
  obtain rfl := hB_.symm
  refine x_nil ?_
  refine n_then ?_
  refine x_if rfl ?_ ?_
  · intro c1
    exact absurd c1 (by decide)
  · intro c1
    refine x_skip ?_
    refine n_then ?_
    refine x_seq ?_
    refine x_region ?_
    refine s_val rfl (v_move rfl) ?_
    refine s_val rfl (v_loadAll Try.isAgg73 Try.sizeOf73 rfl rfl) ?_
    refine s_do rfl (d_call1 Try.call88 rfl (at_spec W0 _ b its _ k (by omega))) ?_
    rintro _ _ ⟨r, rfl, rfl, hf⟩
    refine s_val rfl (v_assign rfl) ?_
    refine x_nil ?_
    refine n_then ?_
    refine x_seq ?_
    refine x_seq ?_
    refine x_region ?_
    refine s_val rfl (v_move rfl) ?_
    refine s_val rfl (v_lss rfl rfl) ?_
    refine x_nil ?_
    refine n_then ?_
    refine x_if rfl ?_ ?_
    · intro c4
      have hno : ∀ x ∈ its, x.key ≠ k := by
        rcases hf with ⟨_, h⟩ | ⟨i, h, _⟩
        · exact h
        · omega
      refine x_seq ?_
      refine x_region ?_
      refine s_val rfl (v_build Try.underlying75 Try.zeroValue75 (sized_cons Try.sizeOf3 (sized_cons Try.sizeOf3 (sized_cons Try.sizeOf3 sized_nil))) fil_nil) ?_
      refine s_do0 (d_storeAll Try.sizeOf75 rfl rfl rfl rfl rfl) ?_
      rintro _ _ rfl
      refine s_val rfl (v_assign rfl) ?_
      refine x_nil ?_
      refine n_then ?_
      refine x_ret ?_
      refine r_then ?_
      refine x_done (.inl rfl) (.cons (r_all Try.isAgg75 Try.sizeOf75 rfl rfl) (.cons (r_tmp rfl) .nil)) ?_
      refine ⟨_, ⟨?_, its, now, by omega, rfl, ?_⟩, inferInstance⟩
      · simp [pack, getV, (hR.noneI hno).1]
      · rw [getL, (hR.noneI hno).1]; exact hR
    · intro c4
      obtain ⟨i, rfl, hi, hk⟩ : ∃ i : Nat, r = (i : Int) ∧ i < its.length ∧ (its.getD i default).key = k := by
        rcases hf with ⟨h, _⟩ | h
        · omega
        · exact h
      refine x_skip ?_
      refine n_then ?_
      refine x_seq ?_
      refine run_rowN (b := b) (pos_ne hi) fun g c sp h1 h2 h3 => ?_
      refine x_region ?_
      refine s_val rfl (v_move rfl) ?_
      refine s_val rfl (v_nilCheck rfl) ?_
      refine s_val rfl (v_fieldAddr rfl Try.underlying87 rfl Try.sizeOf85 rfl (by first | exact Nat.zero_add _ | rfl)) ?_
      refine s_val rfl (v_fieldAddr rfl Try.underlying85 rfl Try.sizeOf83 rfl (by first | exact Nat.zero_add _ | rfl)) ?_
      refine s_val rfl (v_load Try.isAgg83 rfl (cell_own rfl)) ?_
      refine s_val rfl (v_move rfl) ?_
      refine s_val rfl (v_idx Try.underlying83 Try.sizeOf171 rfl rfl rfl hi (by first | exact Nat.zero_add _ | rfl)) ?_
      refine s_val rfl (v_fieldAddr rfl Try.underlying171 rfl Try.sizeOf80 rfl (by first | exact Nat.zero_add _ | rfl)) ?_
      refine s_val rfl (v_fieldAddr rfl Try.underlying80 rfl Try.sizeOf75 rfl (by first | exact Nat.zero_add _ | rfl)) ?_
      refine s_val rfl (v_loadAgg Try.isAgg75 Try.sizeOf75 rfl (cells_part (item_ent its sp i hi) rfl) rfl) ?_
      refine s_do rfl (d_allocA Try.zeroValue75) ?_
      rintro _ _ ⟨b3, rfl, rfl⟩
      refine s_do0 (d_storeAll Try.sizeOf75 rfl rfl rfl rfl rfl) ?_
      rintro _ _ rfl
      refine x_nil ?_
      refine n_then ?_
      refine x_seq ?_
      refine x_draw [(b, 0, [.slice (some ⟨g, 0, none⟩) its.length c])] 11 mixed rfl (sc_cons (cells_own rfl) sc_end) (fun hS => ?_)
      refine d_take 0 rfl rfl (by kernel_rfl) (by kernel_rfl) (by kernel_rfl) rfl hS (v_move rfl) ?_
      refine d_take 1 rfl rfl (by kernel_rfl) (by kernel_rfl) (by kernel_rfl) rfl hS (v_nilCheck rfl) ?_
      refine d_take 2 rfl rfl (by kernel_rfl) (by kernel_rfl) (by kernel_rfl) rfl hS (v_fieldAddr rfl Try.underlying87 rfl Try.sizeOf85 rfl (by first | exact Nat.zero_add _ | rfl)) ?_
      refine d_take 3 rfl rfl (by kernel_rfl) (by kernel_rfl) (by kernel_rfl) rfl hS (v_fieldAddr rfl Try.underlying85 rfl Try.sizeOf83 rfl (by first | exact Nat.zero_add _ | rfl)) ?_
      refine d_take 4 rfl rfl (by kernel_rfl) (by kernel_rfl) (by kernel_rfl) rfl hS (v_load Try.isAgg83 rfl (by first | exact cell_sc0 (k := 0) rfl rfl | exact cell_sc0 (k := 1) rfl rfl)) ?_
      refine d_take 5 rfl rfl (by kernel_rfl) (by kernel_rfl) (by kernel_rfl) rfl hS (v_move rfl) ?_
      refine d_take 6 rfl rfl (by kernel_rfl) (by kernel_rfl) (by kernel_rfl) rfl hS (v_move rfl) ?_
      refine d_one 7 (by kernel_rfl) rfl rfl (d_call1 Try.call87 rfl (tickP_spec W0 _ b _ _ now hn)) rfl ?_; clear hS
      rintro _ B_ ⟨rfl, hB_⟩
      obtain rfl := hB_.symm
      refine ⟨(sc_cons (cells_own rfl) sc_end), fun hS => ?_⟩
      refine d_take 8 rfl rfl (by kernel_rfl) (by kernel_rfl) (by kernel_rfl) rfl hS (v_idx Try.underlying83 Try.sizeOf171 rfl rfl rfl hi (by first | exact Nat.zero_add _ | rfl)) ?_
      refine d_take 9 rfl rfl (by kernel_rfl) (by kernel_rfl) (by kernel_rfl) rfl hS (v_fieldAddr rfl Try.underlying171 rfl Try.sizeOf3 rfl (by first | exact Nat.zero_add _ | rfl)) ?_
      refine d_one 10 (by kernel_rfl) rfl rfl (d_store Try.sizeOf3 rfl rfl rfl (by have := item_bd its sp i hi; omega) (item_set1 its sp i _ hi)) rfl ?_; clear hS
      rintro _ _ rfl
      refine ⟨(sc_cons (cells_own rfl) sc_end), fun hS => ?_⟩
      refine d_done (by kernel_rfl) ?_; clear hS
      refine n_then ?_
      refine x_seq ?_
      refine run_shut (b := b) (its := its.set i { its.getD i default with u := (now + 1 : Nat) }) rfl (by simp) h1 h2 (by simpa [flat_len itemV_len] using h3) ?_
      refine x_region ?_
      refine s_val rfl (v_move rfl) ?_
      refine s_val rfl (v_nilCheck rfl) ?_
      refine s_val rfl (v_fieldAddr rfl Try.underlying87 rfl Try.sizeOf85 rfl (by first | exact Nat.zero_add _ | rfl)) ?_
      refine s_val rfl (v_mkI Try.underlying174 (fun _ h => nomatch h) rfl) ?_
      refine s_val rfl (v_move rfl) ?_
      refine s_do rfl (d_call1 Try.call89 rfl (heapFix_spec W0 _ b (its.set i { its.getD i default with u := (now + 1 : Nat) }) _ i (by simp; omega) (by simpa using hi) (by rw [List.length_set]; exact set_hole hR.heap hi))) ?_
      rintro _ _ ⟨rfl, its', rfl, hp, hh⟩
      refine x_nil ?_
      refine n_then ?_
      refine x_seq ?_
      refine x_region ?_
      refine s_val rfl (v_loadAll Try.isAgg75 Try.sizeOf75 rfl rfl) ?_
      refine s_do0 (d_storeAll Try.sizeOf75 rfl rfl rfl rfl rfl) ?_
      rintro _ _ rfl
      refine s_val rfl (v_assign rfl) ?_
      refine x_nil ?_
      refine n_then ?_
      refine x_ret ?_
      refine x_done (.inl rfl) (.cons (r_all Try.isAgg75 Try.sizeOf75 rfl rfl) (.cons (r_tmp rfl) .nil)) ?_
      have hsm := hR.someI hi hk
      refine ⟨_, ⟨?_, its', now + 1, by omega, rfl, ?_⟩, inferInstance⟩
      · simp [pack, getV, hsm, It.ent]
      · rw [getL, hsm]; subst hk
        exact hR.setI hi rfl rfl (by simp [mkIt]) hp (by rw [hp.length_eq]; exact hh)

theorem Drop_spec18 (W0 : World) (R : List HP) (b : Nat) (its : List It) (tr : Value) (now : Nat) (L : List It) (k : Key) (hR : Rep its now L) (hL : L.length ≤ 100) (tw : Value) :
    Spec Try.prog W0 36 [.pointer (some ⟨b, 0, none⟩), .agg (keyV k).toArray] (rowH b (its, [tr, tw, .bool true]) :: R)
      (fun v B => v = .bool (findK k L).isSome ∧ ∃ its', B = rowH b (its', [tr, tw, .bool true]) :: R ∧ Rep its' now (without k L)) := by
  have hlen := hR.length
  refine spec_body Try.func36 Try.ntmps36 rfl rfl ?_
  refine x_seq ?_
  refine x_region ?_
  refine s_do rfl (d_boxA rfl) ?_
  rintro _ _ ⟨b1, rfl, rfl⟩
  refine s_val rfl (v_assign rfl) ?_
  refine x_nil ?_
  refine n_then ?_
  refine x_seq ?_
  refine x_seq ?_
  refine x_region ?_
  refine s_val rfl (v_move rfl) ?_
  refine s_do rfl (d_call1 Try.call86 rfl (none_spec W0 _ b its _ _)) ?_
  rintro _ B_ ⟨rfl, hB_⟩
  obtain rfl := hB_.symm
  refine x_nil ?_
  refine n_then ?_
  refine x_if rfl ?_ ?_
  · intro c1
    exact absurd c1 (by decide)
  · intro c1
    refine x_skip ?_
    refine n_then ?_
    refine x_seq ?_
    refine x_region ?_
    refine s_val rfl (v_move rfl) ?_
    refine s_val rfl (v_loadAll Try.isAgg73 Try.sizeOf73 rfl rfl) ?_
    refine s_do rfl (d_call1 Try.call88 rfl (at_spec W0 _ b its _ k (by omega))) ?_
    rintro _ _ ⟨r, rfl, rfl, hf⟩
    refine s_val rfl (v_assign rfl) ?_
    refine x_nil ?_
    refine n_then ?_
    refine x_seq ?_
    refine x_seq ?_
    refine x_region ?_
    refine s_val rfl (v_move rfl) ?_
    refine s_val rfl (v_lss rfl rfl) ?_
    refine x_nil ?_
    refine n_then ?_
    refine x_if rfl ?_ ?_
    · intro c4
      have hno : ∀ x ∈ its, x.key ≠ k := by
        rcases hf with ⟨_, h⟩ | ⟨i, h, _⟩
        · exact h
        · omega
      refine x_seq ?_
      refine x_region ?_
      refine s_val rfl (v_assign rfl) ?_
      refine x_nil ?_
      refine n_then ?_
      refine x_ret ?_
      refine r_then ?_
      refine x_done (.inl rfl) (.cons (r_tmp rfl) .nil) ?_
      refine ⟨_, ⟨?_, its, rfl, ?_⟩, inferInstance⟩
      · simp [pack, (hR.noneI hno).1]
      · rw [(hR.noneI hno).2]; exact hR
    · intro c4
      obtain ⟨i, rfl, hi, hk⟩ : ∃ i : Nat, r = (i : Int) ∧ i < its.length ∧ (its.getD i default).key = k := by
        rcases hf with ⟨h, _⟩ | h
        · omega
        · exact h
      refine x_skip ?_
      refine n_then ?_
      refine x_seq ?_
      refine x_region ?_
      refine s_val rfl (v_move rfl) ?_
      refine s_val rfl (v_nilCheck rfl) ?_
      refine s_val rfl (v_fieldAddr rfl Try.underlying87 rfl Try.sizeOf85 rfl (by first | exact Nat.zero_add _ | rfl)) ?_
      refine s_val rfl (v_mkI Try.underlying174 (fun _ h => nomatch h) rfl) ?_
      refine s_val rfl (v_move rfl) ?_
      refine s_do rfl (d_call1 Try.call99 rfl (heapRemove_spec W0 _ b its _ i (by omega) hi hR.heap)) ?_
      rintro _ _ ⟨its', rfl, rfl, hp, hh⟩
      refine s_val rfl (v_assert Try.underlying171 (fun _ h => nomatch h) rfl) ?_
      refine s_do rfl (d_allocA Try.zeroValue171) ?_
      rintro _ _ ⟨b2, rfl, rfl⟩
      refine s_do0 (d_storeAll Try.sizeOf171 rfl rfl rfl rfl rfl) ?_
      rintro _ _ rfl
      refine x_nil ?_
      refine n_then ?_
      refine x_seq ?_
      refine x_region ?_
      refine s_val rfl (v_fieldAddr rfl Try.underlying171 rfl Try.sizeOf80 rfl (by first | exact Nat.zero_add _ | rfl)) ?_
      refine s_val rfl (v_fieldAddr rfl Try.underlying80 rfl Try.sizeOf73 rfl (by first | exact Nat.zero_add _ | rfl)) ?_
      refine s_val rfl (v_loadAgg Try.isAgg73 Try.sizeOf73 rfl (cells_part (vs := [.int .i64 (its.getD i default).kr, .int .i64 (its.getD i default).kp]) rfl rfl) rfl) ?_
      refine s_val rfl (v_loadAll Try.isAgg73 Try.sizeOf73 rfl rfl) ?_
      refine s_val rfl (v_eql_agg Try.eqGuardType73 rfl rfl (q_struct Try.underlying73 Try.stoodInHeld73 (qf_scal rfl Try.isAgg3 rfl rfl (q_int Try.underlying3) (qf_scal rfl Try.isAgg3 rfl rfl (q_int Try.underlying3) qf_nil)))) ?_
      refine s_val rfl (v_assign rfl) ?_
      refine x_nil ?_
      refine n_then ?_
      refine x_ret ?_
      refine x_done (.inl rfl) (.cons (r_tmp rfl) .nil) ?_
      have hsm := hR.someI hi hk
      refine ⟨_, ⟨?_, its', rfl, hR.dropI hk hp hh⟩, inferInstance⟩
      rw [hsm]; subst hk
      simp [pack, It.key]
end Go.Proofs.Ytechkfopkpkigaa
