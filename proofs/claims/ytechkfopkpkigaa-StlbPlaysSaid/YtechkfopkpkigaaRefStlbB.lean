/-
  Layer 18 (stlb): the reference's acts.
-/
import Derived.Test.YtechkfopkpkigaaRefStlb
namespace Go.Proofs.Ytechkfopkpkigaa
open Go.RowKit
set_option linter.unusedSimpArgs false
set_option linter.unusedVariables false
set_option maxRecDepth 20000

theorem findK_drop {k : Key} {L : List It} {i : Nat} (h : i < L.length) (hne : L[i].key ≠ k) : findK k (L.drop i) = findK k (L.drop (i + 1)) := by
  rw [List.drop_eq_getElem_cons h, findK, List.find?_cons_of_neg (by simpa using hne)]; rfl
theorem findK_here {k : Key} {L : List It} {i : Nat} (h : i < L.length) (he : L[i].key = k) : findK k (L.drop i) = some L[i] := by
  rw [List.drop_eq_getElem_cons h, findK, List.find?_cons_of_pos (by simpa using he)]
theorem rtLook_spec (W0 : World) (R : List HP) (b : Nat) (L : List It) (rm : Int) (k : Key) (hN : L.length < 1000) :
    Spec Try.prog W0 101 [.pointer (some ⟨b, 0, none⟩), .agg (keyV k).toArray] (rtH W0 b (L, rm) :: R) (fun v B => v = getV k L ∧ B = rtH W0 b (L, rm) :: R) := by
  refine spec_rt fun a0 c0 D hs0 => ?_
  refine spec_body Try.func101 Try.ntmps101 rfl rfl ?_
  refine x_seq ?_
  refine x_region ?_
  refine s_do rfl (d_boxA rfl) ?_
  rintro _ _ ⟨b1, rfl, rfl⟩
  refine s_do rfl (d_allocA Try.zeroValue75) ?_
  rintro _ _ ⟨b2, rfl, rfl⟩
  refine s_val rfl (v_assign rfl) ?_
  refine x_nil ?_
  refine n_then ?_
  refine x_seq ?_
  refine x_seq ?_
  refine x_region ?_
  refine s_val rfl (v_assign rfl) ?_
  refine x_nil ?_
  refine n_then ?_
  refine x_block ?_
  refine x_loop (fun i : Nat => i ≤ L.length ∧ findK k L = findK k (L.drop i)) (fun i => [(0, .pointer (some ⟨b, 0, none⟩)), (3, .pointer (some ⟨b1, 0, none⟩)), (4, .pointer (some ⟨b2, 0, none⟩)), (6, .int .i64 i)]) (fun i => pt b2 (cob (entV (0, 0, 0)) 75) :: pt b1 (cob (keyV k) 73) :: pt b (cob [.slice a0 L.length c0, .int .i64 rm] 96) :: kH 0 (grp D) :: R) (fun i => L.length - i) 0 ?_ ?_ ?_ ?_
  · exact ⟨Nat.zero_le _, rfl⟩
  · repeat (first | exact sub_nil | refine sub_cons rfl ?_)
  · exact inferInstance
  · intro i ⟨hi, hf⟩
    refine x_seq ?_
    refine x_seq ?_
    refine x_region ?_
    refine s_val rfl (v_move rfl) ?_
    refine s_val rfl (v_move rfl) ?_
    refine s_val rfl (v_nilCheck rfl) ?_
    refine s_val rfl (v_fieldAddr rfl Try.underlying96 rfl Try.sizeOf76 rfl (by first | exact Nat.zero_add _ | rfl)) ?_
    refine s_val rfl (v_load Try.isAgg76 rfl (cell_own rfl)) ?_
    refine s_val rfl (v_len_slice Try.underlying76 rfl) ?_
    refine s_val rfl (v_lss rfl rfl) ?_
    refine x_nil ?_
    refine n_then ?_
    refine x_if rfl ?_ ?_
    · intro c2
      have hi1 : i < L.length := by omega
      refine run_hs hs0 (fun hs => ?_)
      obtain ⟨g, o, rfl, hc⟩ := hs.at_ hi1
      refine x_skip ?_
      refine n_then ?_
      refine x_seq ?_
      refine x_block ?_
      refine x_seq ?_
      refine x_draw [(b, 0, _), (g, o + i * 5, keptV L[i]), (b1, 0, _)] 10 mixed rfl (sc_own (sc_cons hc.weak (sc_own sc_end))) (fun hS => ?_)
      refine d_take 0 rfl rfl (by kernel_rfl) (by kernel_rfl) (by kernel_rfl) rfl hS (v_move rfl) ?_
      refine d_take 1 rfl rfl (by kernel_rfl) (by kernel_rfl) (by kernel_rfl) rfl hS (v_nilCheck rfl) ?_
      refine d_take 2 rfl rfl (by kernel_rfl) (by kernel_rfl) (by kernel_rfl) rfl hS (v_fieldAddr rfl Try.underlying96 rfl Try.sizeOf76 rfl (by first | exact Nat.zero_add _ | rfl)) ?_
      refine d_take 3 rfl rfl (by kernel_rfl) (by kernel_rfl) (by kernel_rfl) rfl hS (v_load Try.isAgg76 rfl (cell_sc0 (k := 0) rfl rfl)) ?_
      refine d_take 4 rfl rfl (by kernel_rfl) (by kernel_rfl) (by kernel_rfl) rfl hS (v_move rfl) ?_
      refine d_take 5 rfl rfl (by kernel_rfl) (by kernel_rfl) (by kernel_rfl) rfl hS (v_idx Try.underlying76 Try.sizeOf80 rfl rfl rfl hi1 (by first | exact Nat.zero_add _ | rfl)) ?_
      refine d_take 6 rfl rfl (by kernel_rfl) (by kernel_rfl) (by kernel_rfl) rfl hS (v_fieldAddr rfl Try.underlying80 rfl Try.sizeOf73 rfl (by first | exact Nat.zero_add _ | rfl)) ?_
      refine d_take 7 rfl rfl (by kernel_rfl) (by kernel_rfl) (by kernel_rfl) rfl hS (v_loadAgg Try.isAgg73 Try.sizeOf73 rfl (Cells.front (n := 2) (vs := keyV L[i].key) (cells_sc (k := 1) rfl) rfl) rfl) ?_
      refine d_take 8 rfl rfl (by kernel_rfl) (by kernel_rfl) (by kernel_rfl) rfl hS (v_loadAgg Try.isAgg73 Try.sizeOf73 rfl (cells_sc (k := 2) rfl) rfl) ?_
      refine d_take 9 rfl rfl (by kernel_rfl) (by kernel_rfl) (by kernel_rfl) rfl hS (v_eql_agg Try.eqGuardType73 rfl rfl (q_struct Try.underlying73 Try.stoodInHeld73 (qf_scal rfl Try.isAgg3 rfl rfl (q_int Try.underlying3) (qf_scal rfl Try.isAgg3 rfl rfl (q_int Try.underlying3) qf_nil)))) ?_
      refine d_done (by kernel_rfl) ?_; clear hS
      refine n_then ?_
      refine x_if rfl ?_ ?_
      · intro c4
        have heq : L[i].key = k := by simpa [Prod.ext_iff, It.key] using c4
        have hfi := findK_here hi1 heq
        rw [← hf] at hfi
        refine x_seq ?_
        refine x_region ?_
        refine s_val rfl (v_move rfl) ?_
        refine s_val rfl (v_nilCheck rfl) ?_
        refine s_val rfl (v_fieldAddr rfl Try.underlying96 rfl Try.sizeOf76 rfl (by first | exact Nat.zero_add _ | rfl)) ?_
        refine s_val rfl (v_load Try.isAgg76 rfl (cell_own rfl)) ?_
        refine s_val rfl (v_move rfl) ?_
        refine s_val rfl (v_idx Try.underlying76 Try.sizeOf80 rfl rfl rfl hi1 (by first | exact Nat.zero_add _ | rfl)) ?_
        refine s_val rfl (v_fieldAddr rfl Try.underlying80 rfl Try.sizeOf75 rfl (by first | exact Nat.zero_add _ | rfl)) ?_
        refine s_val rfl (v_loadAgg Try.isAgg75 Try.sizeOf75 rfl (Cells.mid (j := 2) (n := 3) (vs := entV L[i].ent) hc.weak rfl) rfl) ?_
        refine s_do0 (d_storeAll Try.sizeOf75 rfl rfl rfl rfl rfl) ?_
        rintro _ _ rfl
        refine s_val rfl (v_assign rfl) ?_
        refine x_nil ?_
        refine n_then ?_
        refine x_ret ?_
        refine r_block ?_
        refine r_then ?_
        refine r_then ?_
        refine r_block ?_
        refine r_then ?_
        refine x_done (.inl rfl) (.cons (r_all Try.isAgg75 Try.sizeOf75 rfl rfl) (.cons (r_tmp rfl) .nil)) ?_
        rw [getV, hfi]
        exact ⟨_, ⟨rfl, rfl⟩, ent_rt0 rfl hs0⟩
      · intro c4
        have hne : L[i].key ≠ k := fun q => by
          apply c4
          rw [← q]
          simp
        have hfi := findK_drop hi1 hne
        rw [← hf] at hfi
        refine x_skip ?_
        refine n_block ?_
        refine n_then ?_
        refine x_region ?_
        refine s_val rfl (v_move rfl) ?_
        refine s_val rfl (v_add rfl rfl (by first | exact w64 (by omega) | rfl)) ?_
        refine s_val rfl (v_assign rfl) ?_
        refine x_nil ?_
        refine n_then ?_
        refine inv_intro (i + 1) ?_ ?_ ?_ ?_
        · exact ⟨by omega, hfi⟩
        · omega
        · repeat (first | exact sub_nil | refine sub_cons rfl ?_)
        · exact inferInstance
    · intro c2
      refine x_exit ?_
      refine e_then ?_
      refine e_then ?_
      refine e_block ?_
      refine n_then ?_
      refine x_seq ?_
      obtain rfl : i = L.length := by omega
      rw [List.drop_of_length_le (Nat.le_refl _)] at hf
      refine x_region ?_
      refine s_val rfl (v_build Try.underlying75 Try.zeroValue75 (sized_cons Try.sizeOf3 (sized_cons Try.sizeOf3 (sized_cons Try.sizeOf3 sized_nil))) fil_nil) ?_
      refine s_do0 (d_storeAll Try.sizeOf75 rfl rfl rfl rfl rfl) ?_
      rintro _ _ rfl
      refine s_val rfl (v_assign rfl) ?_
      refine x_nil ?_
      refine n_then ?_
      refine x_ret ?_
      refine x_done (.inl rfl) (.cons (r_all Try.isAgg75 Try.sizeOf75 rfl rfl) (.cons (r_tmp rfl) .nil)) ?_
      rw [getV, hf, findK_nil]
      exact ⟨_, ⟨rfl, rfl⟩, ent_rt0 rfl hs0⟩
theorem getV_eq (k : Key) (L : List It) : ∃ ee, getV k L = .tuple #[.agg (entV ee).toArray, .bool (findK k L).isSome] ∧ ∀ y, findK k L = some y → ee = y.ent := by
  unfold getV
  cases h : findK k L with
  | none => exact ⟨(0, 0, 0), rfl, fun _ h => by cases h⟩
  | some y => exact ⟨y.ent, rfl, fun z hz => by cases hz; rfl⟩
theorem kept_mk (k : Key) (e : Ent3) (u : Int) : keptV (mkIt k e u) = [.int .i64 k.1, .int .i64 k.2, .int .i64 e.1, .int .i64 e.2.1, .int .i64 e.2.2] := rfl
theorem rtPut_spec (W0 : World) (R : List HP) (b : Nat) (L : List It) (room now : Nat) (k : Key) (e : Ent3) (hN : L.length < 900) (hr : room ≤ 4) :
    Spec Try.prog W0 43 [.pointer (some ⟨b, 0, none⟩), .agg (keyV k).toArray, .agg (entV e).toArray] (rtH W0 b (L, (room : Int)) :: R) (fun v B => v = .tuple #[] ∧ B = rtH W0 b (putL room now k e L, (room : Int)) :: R) := by
  have hwl := without_le k L
  have hpl := putBack_len k (mkIt k e (now + 1 : Nat)) L
  have hfl : (putBack k (mkIt k e (now + 1 : Nat)) L).flatMap keptV = (without k L).flatMap keptV ++ [.int .i64 k.1, .int .i64 k.2, .int .i64 e.1, .int .i64 e.2.1, .int .i64 e.2.2] := by
    rw [putBack, List.flatMap_append]; rfl
  refine spec_body Try.func43 Try.ntmps43 rfl rfl ?_
  refine x_seq ?_
  refine x_region ?_
  refine s_do rfl (d_boxA rfl) ?_
  rintro _ _ ⟨b1, rfl, rfl⟩
  refine s_do rfl (d_boxA rfl) ?_
  rintro _ _ ⟨b2, rfl, rfl⟩
  refine x_nil ?_
  refine n_then ?_
  refine x_seq ?_
  refine x_draw [(b1, 0, _), (b2, 0, _)] 9 mixed rfl (sc_own (sc_own sc_end)) (fun hS => ?_)
  refine d_take 0 rfl rfl (by kernel_rfl) (by kernel_rfl) (by kernel_rfl) rfl hS (v_move rfl) ?_
  refine d_take 1 rfl rfl (by kernel_rfl) (by kernel_rfl) (by kernel_rfl) rfl hS (v_loadAgg Try.isAgg73 Try.sizeOf73 rfl (by first | exact cells_sc (k := 0) rfl | exact cells_sc (k := 1) rfl) rfl) ?_
  refine d_take 3 rfl rfl (by kernel_rfl) (by kernel_rfl) (by kernel_rfl) rfl hS (v_loadAgg Try.isAgg73 Try.sizeOf73 rfl (by first | exact cells_sc (k := 0) rfl | exact cells_sc (k := 1) rfl) rfl) ?_
  refine d_take 4 rfl rfl (by kernel_rfl) (by kernel_rfl) (by kernel_rfl) rfl hS (v_loadAgg Try.isAgg75 Try.sizeOf75 rfl (by first | exact cells_sc (k := 0) rfl | exact cells_sc (k := 1) rfl) rfl) ?_
  refine d_take 5 rfl rfl (by kernel_rfl) (by kernel_rfl) (by kernel_rfl) rfl hS (v_build Try.underlying80 Try.zeroValue80 (sized_cons Try.sizeOf73 (sized_cons Try.sizeOf75 sized_nil)) (fil_agg rfl Try.sizeOf73 rfl rfl (Nat.le_of_ble_eq_true rfl) SetRL.eq (fil_agg rfl Try.sizeOf75 rfl rfl (Nat.le_of_ble_eq_true rfl) SetRL.eq fil_nil))) ?_
  refine d_all (is := [2, 6]) (by kernel_rfl) rfl ⟨?_, ?_, trivial⟩
  · skip
    refine dx_one rfl rfl (d_call1 Try.call102 rfl (rtWithout_spec W0 _ b L (room : Int) k (by omega))) rfl ?_; clear hS
    rintro _ B_ ⟨a1, c1, rfl, hB_⟩
    obtain rfl := hB_.symm
    refine ⟨(sc_own (sc_own sc_end)), fun hS => ?_⟩
    refine d_one 6 (by kernel_rfl) rfl rfl (d_sliceAgg Try.underlying76 Try.sizeOf80 Try.zeroValue80 rfl (elsK_cons rfl rfl elsK_nil) rfl (by decide) (by decide) (by decide)) rfl ?_; clear hS
    rintro _ _ ⟨bz, rfl, rfl⟩
    refine ⟨(sc_own (sc_own sc_end)), fun hS => ?_⟩
    refine d_one 7 (by kernel_rfl) rfl rfl (d_append (sz := 5) (by_ := 40) (info := Try.t80) Try.underlying76 (by kernel_rfl) rfl rfl rfl rfl (by decide) rfl rfl cells_all rfl rfl (by simp only [maxLen]; omega) (by omega)) rfl ?_; clear hS
    rintro _ _ ⟨a5, c5, rfl, rfl⟩
    refine ⟨(sc_own (sc_own sc_end)), fun hS => ?_⟩
    refine d_take 8 rfl rfl (by kernel_rfl) (by kernel_rfl) (by kernel_rfl) rfl hS (v_assign rfl) ?_
    refine d_done (by kernel_rfl) ?_; clear hS
    refine n_then ?_
    refine x_seq ?_
    refine x_seq ?_
    refine run_rt (W0 := W0) (b := b) (L := L) (rm := (room : Int)) fun a0 c0 D hs0 => ?_
    refine x_region ?_
    refine s_val rfl (v_move rfl) ?_
    refine s_val rfl (v_len_slice Try.underlying76 rfl) ?_
    refine s_val rfl (v_move rfl) ?_
    refine s_val rfl (v_nilCheck rfl) ?_
    refine s_val rfl (v_fieldAddr rfl Try.underlying96 rfl Try.sizeOf3 rfl (by first | exact Nat.zero_add _ | rfl)) ?_
    refine s_val rfl (v_load Try.isAgg3 rfl (cell_own rfl)) ?_
    refine s_val rfl (v_gtr rfl rfl) ?_
    refine x_nil ?_
    refine n_then ?_
    refine x_if rfl ?_ ?_
    · intro c2
      have hgt : room < (putBack k (mkIt k e (now + 1 : Nat)) L).length := by rw [hpl]; omega
      obtain ⟨y, L', hy⟩ : ∃ y L', putBack k (mkIt k e (now + 1 : Nat)) L = y :: L' := by
        cases hq : putBack k (mkIt k e (now + 1 : Nat)) L with
        | nil => rw [hq] at hgt; simp at hgt
        | cons y L' => exact ⟨y, L', rfl⟩
      have hput : putL room now k e L = L' := by rw [putL, if_pos hgt, hy]; rfl
      have hll : L'.length = (without k L).length := by
        have := congrArg List.length hy
        rw [hpl] at this; simp at this; omega
      refine run_tk (r := osl 80 5) (b := .slice a5 ((without k L).length + 1) c5) ?_
      refine run_osl (fun h1 _ => by have := (Value.slice.inj h1).2.1; omega) fun g n cap sp h1 h2 h3 h4 h5 => ?_
      cases h1
      obtain ⟨off, pre, sp2, ho, hys, hpre⟩ : ∃ (off : Nat) (pre sp2 : List Value), sliA (some ⟨g, 0, none⟩) c5 1 5 = some ⟨g, off, none⟩ ∧ ((putBack k (mkIt k e (now + 1 : Nat)) L).flatMap keptV ++ sp) = pre ++ L'.flatMap keptV ++ sp2 ∧ pre.length = off := by
        by_cases h11 : c5 = 1
        · have hl0 : L' = [] := List.eq_nil_of_length_eq_zero (by omega)
          exact ⟨0, [], (putBack k (mkIt k e (now + 1 : Nat)) L).flatMap keptV ++ sp, by rw [sliA, if_pos h11], by rw [hl0]; rfl, rfl⟩
        · exact ⟨5, keptV y, sp, by rw [sliA, if_neg h11]; simp [add_none], by rw [hy, List.flatMap_cons], rfl⟩
      rw [hfl] at hys
      refine x_region ?_
      refine s_val rfl (v_move rfl) ?_
      refine s_val rfl (v_sliceLg Try.underlying76 Try.sizeOf80 rfl (i := 1) rfl rfl (by omega) ho) ?_
      refine s_val rfl (v_assign rfl) ?_
      refine x_nil ?_
      refine n_then ?_
      refine x_region ?_
      refine s_val rfl (v_move rfl) ?_
      refine s_val rfl (v_move rfl) ?_
      refine s_val rfl (v_nilCheck rfl) ?_
      refine s_val rfl (v_fieldAddr rfl Try.underlying96 rfl Try.sizeOf76 rfl (by first | exact Nat.zero_add _ | rfl)) ?_
      refine s_do0 (d_store Try.sizeOf76 rfl rfl rfl (Nat.le_of_ble_eq_true rfl) SetL.eq) ?_
      rintro _ _ rfl
      refine x_nil ?_
      refine x_done (.inr rfl) .nil ?_
      first
        | (rw [hput]
           exact ⟨_, ⟨rfl, rfl⟩, ent_rtO (pre := pre) (sp := sp2) (by omega) hys hpre⟩)
        | (rw [hput]
           refine ⟨_, ⟨rfl, rfl⟩, ent_rt (by rw [hpl]) ?_⟩
           rw [hfl]; rfl)
    · intro c2
      have hle : ¬ room < (putBack k (mkIt k e (now + 1 : Nat)) L).length := by rw [hpl]; omega
      have hput : putL room now k e L = putBack k (mkIt k e (now + 1 : Nat)) L := by rw [putL, if_neg hle]
      refine x_skip ?_
      refine n_then ?_
      refine x_region ?_
      refine s_val rfl (v_move rfl) ?_
      refine s_val rfl (v_move rfl) ?_
      refine s_val rfl (v_nilCheck rfl) ?_
      refine s_val rfl (v_fieldAddr rfl Try.underlying96 rfl Try.sizeOf76 rfl (by first | exact Nat.zero_add _ | rfl)) ?_
      refine s_do0 (d_store Try.sizeOf76 rfl rfl rfl (Nat.le_of_ble_eq_true rfl) SetL.eq) ?_
      rintro _ _ rfl
      refine x_nil ?_
      refine x_done (.inr rfl) .nil ?_
      first
        | (rw [hput]
           exact ⟨_, ⟨rfl, rfl⟩, ent_rtO (pre := pre) (sp := sp2) (by omega) hys hpre⟩)
        | (rw [hput]
           refine ⟨_, ⟨rfl, rfl⟩, ent_rt (by rw [hpl]) ?_⟩
           rw [hfl]; rfl)
  · skip
    refine dx_one rfl rfl (d_sliceAgg Try.underlying76 Try.sizeOf80 Try.zeroValue80 rfl (elsK_cons rfl rfl elsK_nil) rfl (by decide) (by decide) (by decide)) rfl ?_; clear hS
    rintro _ _ ⟨bz, rfl, rfl⟩
    refine ⟨(sc_own (sc_own sc_end)), fun hS => ?_⟩
    refine d_one 2 (by kernel_rfl) rfl rfl (d_call1 Try.call102 rfl (rtWithout_spec W0 _ b L (room : Int) k (by omega))) rfl ?_; clear hS
    rintro _ B_ ⟨a1, c1, rfl, hB_⟩
    obtain rfl := hB_.symm
    refine ⟨(sc_own (sc_own sc_end)), fun hS => ?_⟩
    refine d_one 7 (by kernel_rfl) rfl rfl (d_append (sz := 5) (by_ := 40) (info := Try.t80) Try.underlying76 (by kernel_rfl) rfl rfl rfl rfl (by decide) rfl rfl cells_all rfl rfl (by simp only [maxLen]; omega) (by omega)) rfl ?_; clear hS
    rintro _ _ ⟨a5, c5, rfl, rfl⟩
    refine ⟨(sc_own (sc_own sc_end)), fun hS => ?_⟩
    refine d_take 8 rfl rfl (by kernel_rfl) (by kernel_rfl) (by kernel_rfl) rfl hS (v_assign rfl) ?_
    refine d_done (by kernel_rfl) ?_; clear hS
    refine n_then ?_
    refine x_seq ?_
    refine x_seq ?_
    refine run_rt (W0 := W0) (b := b) (L := L) (rm := (room : Int)) fun a0 c0 D hs0 => ?_
    refine x_region ?_
    refine s_val rfl (v_move rfl) ?_
    refine s_val rfl (v_len_slice Try.underlying76 rfl) ?_
    refine s_val rfl (v_move rfl) ?_
    refine s_val rfl (v_nilCheck rfl) ?_
    refine s_val rfl (v_fieldAddr rfl Try.underlying96 rfl Try.sizeOf3 rfl (by first | exact Nat.zero_add _ | rfl)) ?_
    refine s_val rfl (v_load Try.isAgg3 rfl (cell_own rfl)) ?_
    refine s_val rfl (v_gtr rfl rfl) ?_
    refine x_nil ?_
    refine n_then ?_
    refine x_if rfl ?_ ?_
    · intro c2
      have hgt : room < (putBack k (mkIt k e (now + 1 : Nat)) L).length := by rw [hpl]; omega
      obtain ⟨y, L', hy⟩ : ∃ y L', putBack k (mkIt k e (now + 1 : Nat)) L = y :: L' := by
        cases hq : putBack k (mkIt k e (now + 1 : Nat)) L with
        | nil => rw [hq] at hgt; simp at hgt
        | cons y L' => exact ⟨y, L', rfl⟩
      have hput : putL room now k e L = L' := by rw [putL, if_pos hgt, hy]; rfl
      have hll : L'.length = (without k L).length := by
        have := congrArg List.length hy
        rw [hpl] at this; simp at this; omega
      refine run_tk (r := osl 80 5) (b := .slice a5 ((without k L).length + 1) c5) ?_
      refine run_osl (fun h1 _ => by have := (Value.slice.inj h1).2.1; omega) fun g n cap sp h1 h2 h3 h4 h5 => ?_
      cases h1
      obtain ⟨off, pre, sp2, ho, hys, hpre⟩ : ∃ (off : Nat) (pre sp2 : List Value), sliA (some ⟨g, 0, none⟩) c5 1 5 = some ⟨g, off, none⟩ ∧ ((putBack k (mkIt k e (now + 1 : Nat)) L).flatMap keptV ++ sp) = pre ++ L'.flatMap keptV ++ sp2 ∧ pre.length = off := by
        by_cases h11 : c5 = 1
        · have hl0 : L' = [] := List.eq_nil_of_length_eq_zero (by omega)
          exact ⟨0, [], (putBack k (mkIt k e (now + 1 : Nat)) L).flatMap keptV ++ sp, by rw [sliA, if_pos h11], by rw [hl0]; rfl, rfl⟩
        · exact ⟨5, keptV y, sp, by rw [sliA, if_neg h11]; simp [add_none], by rw [hy, List.flatMap_cons], rfl⟩
      rw [hfl] at hys
      refine x_region ?_
      refine s_val rfl (v_move rfl) ?_
      refine s_val rfl (v_sliceLg Try.underlying76 Try.sizeOf80 rfl (i := 1) rfl rfl (by omega) ho) ?_
      refine s_val rfl (v_assign rfl) ?_
      refine x_nil ?_
      refine n_then ?_
      refine x_region ?_
      refine s_val rfl (v_move rfl) ?_
      refine s_val rfl (v_move rfl) ?_
      refine s_val rfl (v_nilCheck rfl) ?_
      refine s_val rfl (v_fieldAddr rfl Try.underlying96 rfl Try.sizeOf76 rfl (by first | exact Nat.zero_add _ | rfl)) ?_
      refine s_do0 (d_store Try.sizeOf76 rfl rfl rfl (Nat.le_of_ble_eq_true rfl) SetL.eq) ?_
      rintro _ _ rfl
      refine x_nil ?_
      refine x_done (.inr rfl) .nil ?_
      first
        | (rw [hput]
           exact ⟨_, ⟨rfl, rfl⟩, ent_rtO (pre := pre) (sp := sp2) (by omega) hys hpre⟩)
        | (rw [hput]
           refine ⟨_, ⟨rfl, rfl⟩, ent_rt (by rw [hpl]) ?_⟩
           rw [hfl]; rfl)
    · intro c2
      have hle : ¬ room < (putBack k (mkIt k e (now + 1 : Nat)) L).length := by rw [hpl]; omega
      have hput : putL room now k e L = putBack k (mkIt k e (now + 1 : Nat)) L := by rw [putL, if_neg hle]
      refine x_skip ?_
      refine n_then ?_
      refine x_region ?_
      refine s_val rfl (v_move rfl) ?_
      refine s_val rfl (v_move rfl) ?_
      refine s_val rfl (v_nilCheck rfl) ?_
      refine s_val rfl (v_fieldAddr rfl Try.underlying96 rfl Try.sizeOf76 rfl (by first | exact Nat.zero_add _ | rfl)) ?_
      refine s_do0 (d_store Try.sizeOf76 rfl rfl rfl (Nat.le_of_ble_eq_true rfl) SetL.eq) ?_
      rintro _ _ rfl
      refine x_nil ?_
      refine x_done (.inr rfl) .nil ?_
      first
        | (rw [hput]
           exact ⟨_, ⟨rfl, rfl⟩, ent_rtO (pre := pre) (sp := sp2) (by omega) hys hpre⟩)
        | (rw [hput]
           refine ⟨_, ⟨rfl, rfl⟩, ent_rt (by rw [hpl]) ?_⟩
           rw [hfl]; rfl)
theorem rtGet_spec (W0 : World) (R : List HP) (b : Nat) (L : List It) (rm : Int) (now : Nat) (k : Key) (hN : L.length < 900) :
    Spec Try.prog W0 39 [.pointer (some ⟨b, 0, none⟩), .agg (keyV k).toArray] (rtH W0 b (L, rm) :: R) (fun v B => v = getV k L ∧ B = rtH W0 b (getL now k L, rm) :: R) := by
  have hwl := without_le k L
  obtain ⟨ee, hv, hee⟩ := getV_eq k L
  refine spec_body Try.func39 Try.ntmps39 rfl rfl ?_
  refine x_seq ?_
  refine x_region ?_
  refine s_do rfl (d_boxA rfl) ?_
  rintro _ _ ⟨b1, rfl, rfl⟩
  refine s_do rfl (d_allocA Try.zeroValue75) ?_
  rintro _ _ ⟨b2, rfl, rfl⟩
  refine s_val rfl (v_assign rfl) ?_
  refine x_nil ?_
  refine n_then ?_
  refine x_seq ?_
  refine x_region ?_
  refine s_val rfl (v_move rfl) ?_
  refine s_val rfl (v_loadAll Try.isAgg73 Try.sizeOf73 rfl rfl) ?_
  refine s_do rfl (d_call1 Try.call101 rfl (rtLook_spec W0 _ b L rm k (by omega))) ?_
  rintro _ B_ ⟨rfl, hB_⟩
  obtain rfl := hB_.symm
  rw [hv]
  refine s_val rfl (v_move rfl) ?_
  refine s_val rfl (v_extract rfl rfl) ?_
  refine s_val rfl (v_extract rfl rfl) ?_
  refine s_do rfl (d_allocA Try.zeroValue75) ?_
  rintro _ _ ⟨be, rfl, rfl⟩
  refine s_do0 (d_storeAll Try.sizeOf75 rfl rfl rfl rfl rfl) ?_
  rintro _ _ rfl
  refine s_val rfl (v_assign rfl) ?_
  refine x_nil ?_
  refine n_then ?_
  refine x_seq ?_
  refine x_seq ?_
  refine x_region ?_
  refine s_val rfl (v_move rfl) ?_
  refine x_nil ?_
  refine n_then ?_
  refine x_if rfl ?_ ?_
  · intro c2
    obtain ⟨y, hy⟩ := Option.isSome_iff_exists.1 c2
    have hey := hee y hy
    have hgl : getL now k L = putBack k (mkIt k ee (now + 1 : Nat)) L := by rw [getL_some hy, hey]
    have hfl : (putBack k (mkIt k ee (now + 1 : Nat)) L).flatMap keptV = (without k L).flatMap keptV ++ [.int .i64 k.1, .int .i64 k.2, .int .i64 ee.1, .int .i64 ee.2.1, .int .i64 ee.2.2] := by
      rw [putBack, List.flatMap_append]; rfl
    refine run_rt (W0 := W0) (b := b) (L := L) (rm := rm) fun a0 c0 D hs0 => ?_
    refine x_draw [(b1, 0, _), (be, 0, _)] 12 mixed rfl (sc_own (sc_own sc_end)) (fun hS => ?_)
    refine d_take 0 rfl rfl (by kernel_rfl) (by kernel_rfl) (by kernel_rfl) rfl hS (v_move rfl) ?_
    refine d_take 1 rfl rfl (by kernel_rfl) (by kernel_rfl) (by kernel_rfl) rfl hS (v_move rfl) ?_
    refine d_take 2 rfl rfl (by kernel_rfl) (by kernel_rfl) (by kernel_rfl) rfl hS (v_loadAgg Try.isAgg73 Try.sizeOf73 rfl (by first | exact cells_sc (k := 0) rfl | exact cells_sc (k := 1) rfl) rfl) ?_
    refine d_take 4 rfl rfl (by kernel_rfl) (by kernel_rfl) (by kernel_rfl) rfl hS (v_loadAgg Try.isAgg73 Try.sizeOf73 rfl (by first | exact cells_sc (k := 0) rfl | exact cells_sc (k := 1) rfl) rfl) ?_
    refine d_take 5 rfl rfl (by kernel_rfl) (by kernel_rfl) (by kernel_rfl) rfl hS (v_loadAgg Try.isAgg75 Try.sizeOf75 rfl (by first | exact cells_sc (k := 0) rfl | exact cells_sc (k := 1) rfl) rfl) ?_
    refine d_take 6 rfl rfl (by kernel_rfl) (by kernel_rfl) (by kernel_rfl) rfl hS (v_build Try.underlying80 Try.zeroValue80 (sized_cons Try.sizeOf73 (sized_cons Try.sizeOf75 sized_nil)) (fil_agg rfl Try.sizeOf73 rfl rfl (Nat.le_of_ble_eq_true rfl) SetRL.eq (fil_agg rfl Try.sizeOf75 rfl rfl (Nat.le_of_ble_eq_true rfl) SetRL.eq fil_nil))) ?_
    refine d_all (is := [3, 7]) (by kernel_rfl) rfl ⟨?_, ?_, trivial⟩
    · skip
      refine dx_one rfl rfl (d_call2 Try.call102 rfl (rtWithout0_spec W0 _ b L rm k (by omega) a0 c0 D hs0)) rfl ?_; clear hS
      rintro _ B_ ⟨a1, c1, rfl, hB_⟩
      obtain rfl := hB_.symm
      refine ⟨(sc_own (sc_own sc_end)), fun hS => ?_⟩
      refine d_one 7 (by kernel_rfl) rfl rfl (d_sliceAgg Try.underlying76 Try.sizeOf80 Try.zeroValue80 rfl (elsK_cons rfl rfl elsK_nil) rfl (by decide) (by decide) (by decide)) rfl ?_; clear hS
      rintro _ _ ⟨bz, rfl, rfl⟩
      refine ⟨(sc_own (sc_own sc_end)), fun hS => ?_⟩
      refine d_one 8 (by kernel_rfl) rfl rfl (d_append (sz := 5) (by_ := 40) (info := Try.t80) Try.underlying76 (by kernel_rfl) rfl rfl rfl rfl (by decide) rfl rfl cells_all rfl rfl (by simp only [maxLen]; omega) (by omega)) rfl ?_; clear hS
      rintro _ _ ⟨a5, c5, rfl, rfl⟩
      refine ⟨(sc_own (sc_own sc_end)), fun hS => ?_⟩
      refine d_take 9 rfl rfl (by kernel_rfl) (by kernel_rfl) (by kernel_rfl) rfl hS (v_nilCheck rfl) ?_
      refine d_take 10 rfl rfl (by kernel_rfl) (by kernel_rfl) (by kernel_rfl) rfl hS (v_fieldAddr rfl Try.underlying96 rfl Try.sizeOf76 rfl (by first | exact Nat.zero_add _ | rfl)) ?_
      refine d_one 11 (by kernel_rfl) rfl rfl (d_store Try.sizeOf76 rfl rfl rfl (Nat.le_of_ble_eq_true rfl) SetL.eq) rfl ?_; clear hS
      rintro _ _ rfl
      refine ⟨(sc_own (sc_own sc_end)), fun hS => ?_⟩
      refine d_done (by kernel_rfl) ?_; clear hS
      refine n_then ?_
      refine x_seq ?_
      refine x_region ?_
      refine s_val rfl (v_loadAll Try.isAgg75 Try.sizeOf75 rfl rfl) ?_
      refine s_val rfl (v_move rfl) ?_
      refine s_do0 (d_storeAll Try.sizeOf75 rfl rfl rfl rfl rfl) ?_
      rintro _ _ rfl
      refine s_val rfl (v_assign rfl) ?_
      refine x_nil ?_
      refine n_then ?_
      refine x_ret ?_
      refine x_done (.inl rfl) (.cons (r_all Try.isAgg75 Try.sizeOf75 rfl rfl) (.cons (r_tmp rfl) .nil)) ?_
      first
        | (rw [hgl]
           exact ⟨_, ⟨rfl, rfl⟩, ent_rt (by rw [putBack_len]) (by rw [hfl]; rfl)⟩)
        | (rw [hgl]
           exact ⟨_, ⟨rfl, rfl⟩, inferInstance⟩)
    · skip
      refine dx_one rfl rfl (d_sliceAgg Try.underlying76 Try.sizeOf80 Try.zeroValue80 rfl (elsK_cons rfl rfl elsK_nil) rfl (by decide) (by decide) (by decide)) rfl ?_; clear hS
      rintro _ _ ⟨bz, rfl, rfl⟩
      refine ⟨(sc_own (sc_own sc_end)), fun hS => ?_⟩
      refine d_one 3 (by kernel_rfl) rfl rfl (d_call2 Try.call102 rfl (rtWithout0_spec W0 _ b L rm k (by omega) a0 c0 D hs0)) rfl ?_; clear hS
      rintro _ B_ ⟨a1, c1, rfl, hB_⟩
      obtain rfl := hB_.symm
      refine ⟨(sc_own (sc_own sc_end)), fun hS => ?_⟩
      refine d_one 8 (by kernel_rfl) rfl rfl (d_append (sz := 5) (by_ := 40) (info := Try.t80) Try.underlying76 (by kernel_rfl) rfl rfl rfl rfl (by decide) rfl rfl cells_all rfl rfl (by simp only [maxLen]; omega) (by omega)) rfl ?_; clear hS
      rintro _ _ ⟨a5, c5, rfl, rfl⟩
      refine ⟨(sc_own (sc_own sc_end)), fun hS => ?_⟩
      refine d_take 9 rfl rfl (by kernel_rfl) (by kernel_rfl) (by kernel_rfl) rfl hS (v_nilCheck rfl) ?_
      refine d_take 10 rfl rfl (by kernel_rfl) (by kernel_rfl) (by kernel_rfl) rfl hS (v_fieldAddr rfl Try.underlying96 rfl Try.sizeOf76 rfl (by first | exact Nat.zero_add _ | rfl)) ?_
      refine d_one 11 (by kernel_rfl) rfl rfl (d_store Try.sizeOf76 rfl rfl rfl (Nat.le_of_ble_eq_true rfl) SetL.eq) rfl ?_; clear hS
      rintro _ _ rfl
      refine ⟨(sc_own (sc_own sc_end)), fun hS => ?_⟩
      refine d_done (by kernel_rfl) ?_; clear hS
      refine n_then ?_
      refine x_seq ?_
      refine x_region ?_
      refine s_val rfl (v_loadAll Try.isAgg75 Try.sizeOf75 rfl rfl) ?_
      refine s_val rfl (v_move rfl) ?_
      refine s_do0 (d_storeAll Try.sizeOf75 rfl rfl rfl rfl rfl) ?_
      rintro _ _ rfl
      refine s_val rfl (v_assign rfl) ?_
      refine x_nil ?_
      refine n_then ?_
      refine x_ret ?_
      refine x_done (.inl rfl) (.cons (r_all Try.isAgg75 Try.sizeOf75 rfl rfl) (.cons (r_tmp rfl) .nil)) ?_
      first
        | (rw [hgl]
           exact ⟨_, ⟨rfl, rfl⟩, ent_rt (by rw [putBack_len]) (by rw [hfl]; rfl)⟩)
        | (rw [hgl]
           exact ⟨_, ⟨rfl, rfl⟩, inferInstance⟩)
  · intro c2
    have hno : findK k L = none := by simpa using c2
    have hgl : getL now k L = L := by unfold getL; rw [hno]
    refine x_skip ?_
    refine n_then ?_
    refine x_seq ?_
    refine x_region ?_
    refine s_val rfl (v_loadAll Try.isAgg75 Try.sizeOf75 rfl rfl) ?_
    refine s_val rfl (v_move rfl) ?_
    refine s_do0 (d_storeAll Try.sizeOf75 rfl rfl rfl rfl rfl) ?_
    rintro _ _ rfl
    refine s_val rfl (v_assign rfl) ?_
    refine x_nil ?_
    refine n_then ?_
    refine x_ret ?_
    refine x_done (.inl rfl) (.cons (r_all Try.isAgg75 Try.sizeOf75 rfl rfl) (.cons (r_tmp rfl) .nil)) ?_
    first
      | (rw [hgl]
         exact ⟨_, ⟨rfl, rfl⟩, ent_rt (by rw [putBack_len]) (by rw [hfl]; rfl)⟩)
      | (rw [hgl]
         exact ⟨_, ⟨rfl, rfl⟩, inferInstance⟩)
theorem rtDrop_spec (W0 : World) (R : List HP) (b : Nat) (L : List It) (rm : Int) (k : Key) (hN : L.length < 900) :
    Spec Try.prog W0 40 [.pointer (some ⟨b, 0, none⟩), .agg (keyV k).toArray] (rtH W0 b (L, rm) :: R) (fun v B => v = .bool (findK k L).isSome ∧ B = rtH W0 b (without k L, rm) :: R) := by
  obtain ⟨ee, hv, hee⟩ := getV_eq k L
  refine spec_body Try.func40 Try.ntmps40 rfl rfl ?_
  refine x_seq ?_
  refine x_region ?_
  refine s_do rfl (d_boxA rfl) ?_
  rintro _ _ ⟨b1, rfl, rfl⟩
  refine s_val rfl (v_assign rfl) ?_
  refine x_nil ?_
  refine n_then ?_
  refine x_seq ?_
  refine x_region ?_
  refine s_val rfl (v_move rfl) ?_
  refine s_val rfl (v_loadAll Try.isAgg73 Try.sizeOf73 rfl rfl) ?_
  refine s_do rfl (d_call1 Try.call101 rfl (rtLook_spec W0 _ b L rm k (by omega))) ?_
  rintro _ B_ ⟨rfl, hB_⟩
  obtain rfl := hB_.symm
  rw [hv]
  refine s_val rfl (v_move rfl) ?_
  refine s_val rfl (v_extract rfl rfl) ?_
  refine s_val rfl (v_extract rfl rfl) ?_
  refine s_do rfl (d_allocA Try.zeroValue75) ?_
  rintro _ _ ⟨be, rfl, rfl⟩
  refine s_do0 (d_storeAll Try.sizeOf75 rfl rfl rfl rfl rfl) ?_
  rintro _ _ rfl
  refine s_val rfl (v_assign rfl) ?_
  refine x_nil ?_
  refine n_then ?_
  refine x_seq ?_
  refine run_rt (W0 := W0) (b := b) (L := L) (rm := rm) fun a0 c0 D hs0 => ?_
  refine x_region ?_
  refine s_val rfl (v_move rfl) ?_
  refine s_val rfl (v_move rfl) ?_
  refine s_val rfl (v_loadAll Try.isAgg73 Try.sizeOf73 rfl rfl) ?_
  refine s_do rfl (d_call2 Try.call102 rfl (rtWithout0_spec W0 _ b L rm k (by omega) a0 c0 D hs0)) ?_
  rintro _ B_ ⟨a1, c1, rfl, hB_⟩
  obtain rfl := hB_.symm
  refine s_val rfl (v_nilCheck rfl) ?_
  refine s_val rfl (v_fieldAddr rfl Try.underlying96 rfl Try.sizeOf76 rfl (by first | exact Nat.zero_add _ | rfl)) ?_
  refine s_do0 (d_store Try.sizeOf76 rfl rfl rfl (Nat.le_of_ble_eq_true rfl) SetL.eq) ?_
  rintro _ _ rfl
  refine x_nil ?_
  refine n_then ?_
  refine x_seq ?_
  refine x_region ?_
  refine s_val rfl (v_move rfl) ?_
  refine s_val rfl (v_assign rfl) ?_
  refine x_nil ?_
  refine n_then ?_
  refine x_ret ?_
  refine x_done (.inl rfl) (.cons (r_tmp rfl) .nil) ?_
  exact ⟨_, ⟨rfl, rfl⟩, ent_rt rfl rfl⟩
theorem keep_takeL {p : It → Bool} {L : List It} {i : Nat} (h : i < L.length) : keepL p (L.take (i + 1)) = keepL p (L.take i) ++ (if p L[i] then [] else [L[i]]) := by
  have := keep_take (p := p) h
  rwa [show L.getD i default = L[i] by simp [List.getD, h]] at this
theorem rtGone_spec (W0 : World) (R : List HP) (b : Nat) (L : List It) (rm page : Int) (hN : L.length < 900) :
    Spec Try.prog W0 41 [.pointer (some ⟨b, 0, none⟩), .int .i64 page] (rtH W0 b (L, rm) :: R)
      (fun v B => v = .int .i64 (L.length - (keepL (onP page) L).length : Nat) ∧ B = rtH W0 b (keepL (onP page) L, rm) :: R) := by
  have hkl := keep_le (onP page) L
  refine spec_rt fun a0 c0 D hs0 => ?_
  refine spec_body Try.func41 Try.ntmps41 rfl rfl ?_
  refine x_seq ?_
  refine x_region ?_
  refine s_val rfl (v_assign rfl) ?_
  refine x_nil ?_
  refine n_then ?_
  refine x_seq ?_
  refine x_region ?_
  refine s_val rfl (v_assign rfl) ?_
  refine x_nil ?_
  refine n_then ?_
  refine x_seq ?_
  refine x_seq ?_
  refine x_region ?_
  refine s_val rfl (v_assign rfl) ?_
  refine x_nil ?_
  refine n_then ?_
  refine x_block ?_
  refine x_loop (fun X : Nat × Option Addr × Nat => X.1 ≤ L.length) (fun X => [(0, .pointer (some ⟨b, 0, none⟩)), (1, .int .i64 page), (5, .slice X.2.1 (keepL (onP page) (L.take X.1)).length X.2.2), (6, .int .i64 X.1)]) (fun X => kSl X.2.1 X.2.2 (keepL (onP page) (L.take X.1)) :: pt b (cob [.slice a0 L.length c0, .int .i64 rm] 96) :: kH 0 (grp D) :: R) (fun X => L.length - X.1) (0, none, 0) ?_ ?_ ?_ ?_
  · exact Nat.zero_le _
  · repeat (first | exact sub_nil | refine sub_cons rfl ?_)
  · exact ent_osl_nil
  · intro ⟨i, a2, c2⟩ hi
    dsimp only at hi ⊢
    refine x_seq ?_
    refine x_seq ?_
    refine x_region ?_
    refine s_val rfl (v_move rfl) ?_
    refine s_val rfl (v_move rfl) ?_
    refine s_val rfl (v_nilCheck rfl) ?_
    refine s_val rfl (v_fieldAddr rfl Try.underlying96 rfl Try.sizeOf76 rfl (by first | exact Nat.zero_add _ | rfl)) ?_
    refine s_val rfl (v_load Try.isAgg76 rfl (cell_own rfl)) ?_
    refine s_val rfl (v_len_slice Try.underlying76 rfl) ?_
    refine s_val rfl (v_lss rfl rfl) ?_
    refine x_nil ?_
    refine n_then ?_
    refine x_if rfl ?_ ?_
    · intro c3
      have hi1 : i < L.length := by omega
      refine run_hs hs0 (fun hs => ?_)
      obtain ⟨g, o, rfl, hc⟩ := hs.at_ hi1
      have htk := keep_takeL (p := onP page) hi1
      have hwl := keep_le (onP page) (L.take i)
      rw [List.length_take] at hwl
      refine x_skip ?_
      refine n_then ?_
      refine x_cut (fun Z : Option Addr × Nat => True) (fun Z => [(0, .pointer (some ⟨b, 0, none⟩)), (1, .int .i64 page), (5, .slice Z.1 (keepL (onP page) (L.take (i + 1))).length Z.2), (6, .int .i64 i)]) (fun Z => kSl Z.1 Z.2 (keepL (onP page) (L.take (i + 1))) :: pt b (cob [.slice (some ⟨g, o, none⟩) L.length c0, .int .i64 rm] 96) :: kH 0 (grp D) :: R) ?_ ?_
      · skip
        refine x_block ?_
        refine x_seq ?_
        refine x_region ?_
        refine s_val rfl (v_move rfl) ?_
        refine s_val rfl (v_nilCheck rfl) ?_
        refine s_val rfl (v_fieldAddr rfl Try.underlying96 rfl Try.sizeOf76 rfl (by first | exact Nat.zero_add _ | rfl)) ?_
        refine s_val rfl (v_load Try.isAgg76 rfl (cell_own rfl)) ?_
        refine s_val rfl (v_move rfl) ?_
        refine s_val rfl (v_idx Try.underlying76 Try.sizeOf80 rfl rfl rfl hi1 (by first | exact Nat.zero_add _ | rfl)) ?_
        refine s_val rfl (v_fieldAddr rfl Try.underlying80 rfl Try.sizeOf75 rfl (by first | exact Nat.zero_add _ | rfl)) ?_
        refine s_val rfl (v_fieldAddr rfl Try.underlying75 rfl Try.sizeOf3 rfl (by first | exact Nat.zero_add _ | rfl)) ?_
        refine s_val rfl (v_load Try.isAgg3 rfl (Cells.weak hc 2 _ rfl)) ?_
        refine s_val rfl (v_move rfl) ?_
        refine s_val rfl (v_neq rfl rfl) ?_
        refine x_nil ?_
        refine n_then ?_
        refine x_if rfl ?_ ?_
        · intro c5
          have hne : ¬ onP page L[i] = true := fun q => c5 (by simpa [onP] using q)
          rw [if_neg hne] at htk
          refine x_region ?_
          refine s_val rfl (v_move rfl) ?_
          refine s_val rfl (v_move rfl) ?_
          refine s_val rfl (v_nilCheck rfl) ?_
          refine s_val rfl (v_fieldAddr rfl Try.underlying96 rfl Try.sizeOf76 rfl (by first | exact Nat.zero_add _ | rfl)) ?_
          refine s_val rfl (v_load Try.isAgg76 rfl (cell_own rfl)) ?_
          refine s_val rfl (v_move rfl) ?_
          refine s_val rfl (v_idx Try.underlying76 Try.sizeOf80 rfl rfl rfl hi1 (by first | exact Nat.zero_add _ | rfl)) ?_
          refine s_val rfl (v_loadAgg Try.isAgg80 Try.sizeOf80 rfl hc.weak rfl) ?_
          refine s_do rfl (d_sliceAgg Try.underlying76 Try.sizeOf80 Try.zeroValue80 rfl (elsK_cons rfl rfl elsK_nil) rfl (by decide) (by decide) (by decide)) ?_
          rintro _ _ ⟨b1, rfl, rfl⟩
          refine s_do rfl (d_append (sz := 5) (by_ := 40) (info := Try.t80) Try.underlying76 (by kernel_rfl) rfl rfl rfl rfl (by decide) rfl rfl cells_all rfl rfl (by simp only [maxLen]; omega) (by omega)) ?_
          rintro _ _ ⟨a3, c3, rfl, rfl⟩
          refine s_val rfl (v_assign rfl) ?_
          refine x_nil ?_
          refine n_block ?_
          refine n_then ?_
          refine mid_intro (a3, c3) ?_ ?_ ?_
          · trivial
          · try dsimp only
            rw [htk, List.length_append]
            repeat (first | exact sub_nil | refine sub_cons rfl ?_)
          · try dsimp only
            rw [htk, kSl, List.length_append, List.flatMap_append]
            show Ent _ (osl 80 5 (.slice a3 ((keepL (onP page) (L.take i)).length + 1) c3) ((keepL (onP page) (L.take i)).flatMap keptV ++ [keptV L[i]].flatten) :: _)
            exact inferInstance
        · intro c5
          have heq : onP page L[i] = true := by simpa [onP] using c5
          rw [if_pos heq, List.append_nil] at htk
          refine x_skip ?_
          refine n_block ?_
          refine n_then ?_
          refine mid_intro (a2, c2) ?_ ?_ ?_
          · trivial
          · try dsimp only
            rw [htk]
            repeat (first | exact sub_nil | refine sub_cons rfl ?_)
          · try dsimp only
            rw [htk]; exact inferInstance
      · intro ⟨a4, c4⟩ hz
        refine x_region ?_
        refine s_val rfl (v_move rfl) ?_
        refine s_val rfl (v_add rfl rfl (by first | exact w64 (by omega) | rfl)) ?_
        refine s_val rfl (v_assign rfl) ?_
        refine x_nil ?_
        refine n_then ?_
        refine inv_intro (i + 1, a4, c4) ?_ ?_ ?_ ?_
        · omega
        · show L.length - (i + 1) < L.length - i; omega
        · repeat (first | exact sub_nil | refine sub_cons rfl ?_)
        · exact inferInstance
    · intro c3
      refine x_exit ?_
      refine e_then ?_
      refine e_then ?_
      refine e_block ?_
      refine n_then ?_
      refine x_seq ?_
      obtain rfl : i = L.length := by omega
      rw [List.take_of_length_le (Nat.le_refl _)]
      refine x_region ?_
      refine s_val rfl (v_move rfl) ?_
      refine s_val rfl (v_nilCheck rfl) ?_
      refine s_val rfl (v_fieldAddr rfl Try.underlying96 rfl Try.sizeOf76 rfl (by first | exact Nat.zero_add _ | rfl)) ?_
      refine s_val rfl (v_load Try.isAgg76 rfl (cell_own rfl)) ?_
      refine s_val rfl (v_len_slice Try.underlying76 rfl) ?_
      refine s_val rfl (v_move rfl) ?_
      refine s_val rfl (v_len_slice Try.underlying76 rfl) ?_
      refine s_val rfl (v_sub rfl rfl (by rw [w64 (by omega)]; omega : IntKind.wrap .i64 ((L.length : Int) - ((keepL (onP page) L).length : Int)) = ((L.length - (keepL (onP page) L).length : Nat) : Int))) ?_
      refine s_val rfl (v_assign rfl) ?_
      refine x_nil ?_
      refine n_then ?_
      refine x_seq ?_
      refine x_region ?_
      refine s_val rfl (v_move rfl) ?_
      refine s_val rfl (v_move rfl) ?_
      refine s_val rfl (v_nilCheck rfl) ?_
      refine s_val rfl (v_fieldAddr rfl Try.underlying96 rfl Try.sizeOf76 rfl (by first | exact Nat.zero_add _ | rfl)) ?_
      refine s_do0 (d_store Try.sizeOf76 rfl rfl rfl (Nat.le_of_ble_eq_true rfl) SetL.eq) ?_
      rintro _ _ rfl
      refine x_nil ?_
      refine n_then ?_
      refine x_seq ?_
      refine x_region ?_
      refine s_val rfl (v_move rfl) ?_
      refine s_val rfl (v_assign rfl) ?_
      refine x_nil ?_
      refine n_then ?_
      refine x_ret ?_
      refine x_done (.inl rfl) (.cons (r_tmp rfl) .nil) ?_
      exact ⟨_, ⟨rfl, rfl⟩, ent_rt rfl rfl⟩
theorem nrN_take {page : Int} {L : List It} {i : Nat} (h : i < L.length) : nrN page (L.take (i + 1)) = nrN page (L.take i) + (if hit page L[i] then 1 else 0) := by
  unfold nrN
  rw [List.take_succ_eq_append_getElem h, List.filter_append, List.length_append]
  cases hh : hit page L[i] <;> simp [hh]
theorem rtNarrow_spec (W0 : World) (R : List HP) (b : Nat) (L : List It) (rm page : Int) (hN : L.length < 900) (hE : Er L) :
    Spec Try.prog W0 42 [.pointer (some ⟨b, 0, none⟩), .int .i64 page] (rtH W0 b (L, rm) :: R)
      (fun v B => v = .int .i64 (nrN page L : Nat) ∧ B = rtH W0 b (L.map (narI page), rm) :: R) := by
  refine spec_rt fun a0 c0 D hs0 => ?_
  refine spec_body Try.func42 Try.ntmps42 rfl rfl ?_
  refine x_seq ?_
  refine x_region ?_
  refine s_val rfl (v_assign rfl) ?_
  refine x_nil ?_
  refine n_then ?_
  refine x_seq ?_
  refine x_region ?_
  refine s_val rfl (v_assign rfl) ?_
  refine x_nil ?_
  refine n_then ?_
  refine x_seq ?_
  refine x_region ?_
  refine s_val rfl (v_assign rfl) ?_
  refine x_nil ?_
  refine n_then ?_
  refine x_seq ?_
  refine x_seq ?_
  refine x_region ?_
  refine s_val rfl (v_assign rfl) ?_
  refine x_nil ?_
  refine n_then ?_
  refine x_block ?_
  refine x_loop (fun X : Nat × Option Addr × Nat => X.1 ≤ L.length) (fun X => [(0, .pointer (some ⟨b, 0, none⟩)), (1, .int .i64 page), (5, .int .i64 (nrN page (L.take X.1) : Nat)), (6, .slice X.2.1 X.1 X.2.2), (7, .int .i64 X.1)]) (fun X => osl 80 5 (.slice X.2.1 X.1 X.2.2) (((L.take X.1).map (narI page)).flatMap keptV) :: pt b (cob [.slice a0 L.length c0, .int .i64 rm] 96) :: kH 0 (grp D) :: R) (fun X => L.length - X.1) (0, none, 0) ?_ ?_ ?_ ?_
  · exact Nat.zero_le _
  · repeat (first | exact sub_nil | refine sub_cons rfl ?_)
  · exact ent_osl_nil
  · intro ⟨i, a2, c2⟩ hi
    dsimp only at hi ⊢
    have hnl : nrN page (L.take i) ≤ 900 := by
      unfold nrN
      exact Nat.le_trans (List.length_filter_le _ _) (by rw [List.length_take]; omega)
    refine x_seq ?_
    refine x_seq ?_
    refine x_region ?_
    refine s_val rfl (v_move rfl) ?_
    refine s_val rfl (v_move rfl) ?_
    refine s_val rfl (v_nilCheck rfl) ?_
    refine s_val rfl (v_fieldAddr rfl Try.underlying96 rfl Try.sizeOf76 rfl (by first | exact Nat.zero_add _ | rfl)) ?_
    refine s_val rfl (v_load Try.isAgg76 rfl (cell_own rfl)) ?_
    refine s_val rfl (v_len_slice Try.underlying76 rfl) ?_
    refine s_val rfl (v_lss rfl rfl) ?_
    refine x_nil ?_
    refine n_then ?_
    refine x_if rfl ?_ ?_
    · intro c4
      have hi1 : i < L.length := by omega
      have hx := hE _ (List.getElem_mem hi1)
      refine run_hs hs0 (fun hs => ?_)
      obtain ⟨g, o, rfl, hc⟩ := hs.at_ hi1
      have htk : L.take (i + 1) = L.take i ++ [L[i]] := List.take_succ_eq_append_getElem hi1
      have hnt := nrN_take (page := page) hi1
      have hkn := narI_kept page L[i]
      have her := narI_er (page := page) hx
      have hno := noW_eq hx
      refine x_skip ?_
      refine n_then ?_
      refine x_seq ?_
      refine x_block ?_
      refine x_seq ?_
      refine x_region ?_
      refine s_val rfl (v_move rfl) ?_
      refine s_val rfl (v_nilCheck rfl) ?_
      refine s_val rfl (v_fieldAddr rfl Try.underlying96 rfl Try.sizeOf76 rfl (by first | exact Nat.zero_add _ | rfl)) ?_
      refine s_val rfl (v_load Try.isAgg76 rfl (cell_own rfl)) ?_
      refine s_val rfl (v_move rfl) ?_
      refine s_val rfl (v_idx Try.underlying76 Try.sizeOf80 rfl rfl rfl hi1 (by first | exact Nat.zero_add _ | rfl)) ?_
      refine s_val rfl (v_loadAgg Try.isAgg80 Try.sizeOf80 rfl hc.weak rfl) ?_
      refine s_do rfl (d_allocA Try.zeroValue80) ?_
      rintro _ _ ⟨bx, rfl, rfl⟩
      refine s_do0 (d_storeAll Try.sizeOf80 rfl rfl rfl rfl rfl) ?_
      rintro _ _ rfl
      refine x_nil ?_
      refine n_then ?_
      refine x_cut (fun Z : Nat => True) (fun Z => [(0, .pointer (some ⟨b, 0, none⟩)), (1, .int .i64 page), (5, .int .i64 (nrN page (L.take (i + 1)) : Nat)), (6, .slice a2 i c2), (7, .int .i64 i), (8, .pointer (some ⟨Z, 0, none⟩))]) (fun Z => pt Z (cob [.int .i64 L[i].kr, .int .i64 L[i].kp, .int .i64 L[i].ep, .int .i64 L[i].ef, .int .i64 (narI page L[i]).er] 80) :: osl 80 5 (.slice a2 i c2) (((L.take i).map (narI page)).flatMap keptV) :: pt b (cob [.slice (some ⟨g, o, none⟩) L.length c0, .int .i64 rm] 96) :: kH 0 (grp D) :: R) ?_ ?_
      · skip
        refine x_seq ?_
        refine run_pt (b := bx) (o' := cob [.int .i64 L[i].kr, .int .i64 L[i].kp, .int .i64 L[i].ep, .int .i64 L[i].ef, .int .i64 L[i].er] 80) rfl ?_
        refine x_region ?_
        refine s_val rfl (v_fieldAddr rfl Try.underlying80 rfl Try.sizeOf75 rfl (by first | exact Nat.zero_add _ | rfl)) ?_
        refine s_val rfl (v_fieldAddr rfl Try.underlying75 rfl Try.sizeOf3 rfl (by first | exact Nat.zero_add _ | rfl)) ?_
        refine s_val rfl (v_load Try.isAgg3 rfl (cell_own rfl)) ?_
        refine s_val rfl (v_move rfl) ?_
        refine s_val rfl (v_eql rfl rfl) ?_
        refine s_val rfl (v_move rfl) ?_
        refine s_and rfl rfl rfl ?_ ?_
        · intro g7_6
          refine s_val rfl (v_fieldAddr rfl Try.underlying80 rfl Try.sizeOf75 rfl (by first | exact Nat.zero_add _ | rfl)) ?_
          refine s_yes rfl rfl ?_
          refine s_val rfl (v_fieldAddr rfl Try.underlying75 rfl Try.sizeOf3 rfl (by first | exact Nat.zero_add _ | rfl)) ?_
          refine s_yes rfl rfl ?_
          refine s_val rfl (v_load Try.isAgg3 rfl (cell_own rfl)) ?_
          refine s_yes rfl rfl ?_
          refine s_val rfl (v_and rfl rfl rfl) ?_
          refine s_yes rfl rfl ?_
          refine s_val rfl (v_neq rfl rfl) ?_
          refine s_val rfl (v_pick_t rfl rfl) ?_
          refine x_nil ?_
          refine n_then ?_
          refine x_if rfl ?_ ?_
          · intro c7
            have hw := (wB_and hx).1 (by simpa using c7)
            have hep : L[i].ep = page := by omega
            have hh : hit page L[i] = true := by simp only [hit, hw, Bool.and_true, decide_eq_true_iff]; exact hep
            have hw2 : L[i].er / 2 % 2 = 1 := by simpa [wB] using hw
            obtain ⟨hx1, hx2⟩ := hx
            rw [if_pos hep, hno, if_pos hw] at her
            rw [hh, if_pos rfl] at hnt
            refine x_seq ?_
            refine x_region ?_
            refine s_val rfl (v_fieldAddr rfl Try.underlying80 rfl Try.sizeOf75 rfl (by first | exact Nat.zero_add _ | rfl)) ?_
            refine s_val rfl (v_fieldAddr rfl Try.underlying75 rfl Try.sizeOf3 rfl (by first | exact Nat.zero_add _ | rfl)) ?_
            refine s_val rfl (v_load Try.isAgg3 rfl (cell_own rfl)) ?_
            refine s_val rfl (v_sub rfl rfl (w64 (by omega))) ?_
            refine s_val rfl (v_fieldAddr rfl Try.underlying80 rfl Try.sizeOf75 rfl (by first | exact Nat.zero_add _ | rfl)) ?_
            refine s_val rfl (v_fieldAddr rfl Try.underlying75 rfl Try.sizeOf3 rfl (by first | exact Nat.zero_add _ | rfl)) ?_
            refine s_do0 (d_store Try.sizeOf3 rfl rfl rfl (Nat.le_of_ble_eq_true rfl) SetL.eq) ?_
            rintro _ _ rfl
            refine x_nil ?_
            refine n_then ?_
            refine x_region ?_
            refine s_val rfl (v_move rfl) ?_
            refine s_val rfl (v_add rfl rfl (by rw [w64 (by omega)]; omega : IntKind.wrap .i64 (((nrN page (L.take i) : Nat) : Int) + 1) = ((nrN page (L.take i) + 1 : Nat) : Int))) ?_
            refine s_val rfl (v_assign rfl) ?_
            refine x_nil ?_
            refine n_then ?_
            refine mid_intro bx ?_ ?_ ?_
            · trivial
            · try dsimp only
              rw [hnt]
              repeat (first | exact sub_nil | refine sub_cons rfl ?_)
            · try dsimp only
              rw [her]; exact inferInstance
          · intro c7
            refine x_skip ?_
            refine n_then ?_
            refine mid_intro bx ?_ ?_ ?_
            · trivial
            · have hh : hit page L[i] = false := by
                first
                  | (have hne : ¬ L[i].ep = page := by omega
                     rw [hit, decide_eq_false hne]; rfl)
                  | (have hw : ¬ wB L[i].er = true := fun q => absurd ((wB_and hx).2 q) (by simpa using c7)
                     have hw' : wB L[i].er = false := by simpa using hw
                     rw [hit, hw', Bool.and_false])
              try dsimp only
              rw [hnt, hh, if_neg (by decide), Nat.add_zero]
              repeat (first | exact sub_nil | refine sub_cons rfl ?_)
            · have hh : hit page L[i] = false := by
                first
                  | (have hne : ¬ L[i].ep = page := by omega
                     rw [hit, decide_eq_false hne]; rfl)
                  | (have hw : ¬ wB L[i].er = true := fun q => absurd ((wB_and hx).2 q) (by simpa using c7)
                     have hw' : wB L[i].er = false := by simpa using hw
                     rw [hit, hw', Bool.and_false])
              try dsimp only
              rw [show (narI page L[i]).er = L[i].er by rw [narI, hh]; rfl]; exact inferInstance
        · intro g7_6
          refine s_no rfl rfl rfl rfl ?_
          refine s_no rfl rfl rfl rfl ?_
          refine s_no rfl rfl rfl rfl ?_
          refine s_no rfl rfl rfl rfl ?_
          refine s_val rfl (v_pick_f rfl rfl) ?_
          refine x_nil ?_
          refine n_then ?_
          refine x_iff rfl ?_
          refine x_skip ?_
          refine n_then ?_
          refine mid_intro bx ?_ ?_ ?_
          · trivial
          · have hh : hit page L[i] = false := by
              first
                | (have hne : ¬ L[i].ep = page := by omega
                   rw [hit, decide_eq_false hne]; rfl)
                | (have hw : ¬ wB L[i].er = true := fun q => absurd ((wB_and hx).2 q) (by simpa using c7)
                   have hw' : wB L[i].er = false := by simpa using hw
                   rw [hit, hw', Bool.and_false])
            try dsimp only
            rw [hnt, hh, if_neg (by decide), Nat.add_zero]
            repeat (first | exact sub_nil | refine sub_cons rfl ?_)
          · have hh : hit page L[i] = false := by
              first
                | (have hne : ¬ L[i].ep = page := by omega
                   rw [hit, decide_eq_false hne]; rfl)
                | (have hw : ¬ wB L[i].er = true := fun q => absurd ((wB_and hx).2 q) (by simpa using c7)
                   have hw' : wB L[i].er = false := by simpa using hw
                   rw [hit, hw', Bool.and_false])
            try dsimp only
            rw [show (narI page L[i]).er = L[i].er by rw [narI, hh]; rfl]; exact inferInstance
      · intro bx hz
        refine x_region ?_
        refine s_val rfl (v_move rfl) ?_
        refine s_val rfl (v_loadAll Try.isAgg80 Try.sizeOf80 rfl rfl) ?_
        refine s_do rfl (d_sliceAgg Try.underlying76 Try.sizeOf80 Try.zeroValue80 rfl (elsK_cons rfl rfl elsK_nil) rfl (by decide) (by decide) (by decide)) ?_
        rintro _ _ ⟨b2, rfl, rfl⟩
        refine s_do rfl (d_append (sz := 5) (by_ := 40) (info := Try.t80) Try.underlying76 (by kernel_rfl) rfl rfl rfl rfl (by decide) rfl rfl cells_all rfl rfl (by simp only [maxLen]; omega) (by omega)) ?_
        rintro _ _ ⟨a3, c3, rfl, rfl⟩
        refine s_val rfl (v_assign rfl) ?_
        refine x_nil ?_
        refine n_block ?_
        refine n_then ?_
        refine x_region ?_
        refine s_val rfl (v_move rfl) ?_
        refine s_val rfl (v_add rfl rfl (by first | exact w64 (by omega) | rfl)) ?_
        refine s_val rfl (v_assign rfl) ?_
        refine x_nil ?_
        refine n_then ?_
        refine inv_intro (i + 1, a3, c3) ?_ ?_ ?_ ?_
        · omega
        · show L.length - (i + 1) < L.length - i; omega
        · repeat (first | exact sub_nil | refine sub_cons rfl ?_)
        · try dsimp only
          rw [htk, List.map_append, List.flatMap_append, show ([L[i]].map (narI page)).flatMap keptV = keptV (narI page L[i]) by simp, hkn]
          show Ent _ (osl 80 5 (.slice a3 (i + 1) c3) (((L.take i).map (narI page)).flatMap keptV ++ [[.int .i64 L[i].kr, .int .i64 L[i].kp, .int .i64 L[i].ep, .int .i64 L[i].ef, .int .i64 (narI page L[i]).er]].flatten) :: _)
          exact inferInstance
    · intro c4
      refine x_exit ?_
      refine e_then ?_
      refine e_then ?_
      refine e_block ?_
      refine n_then ?_
      refine x_seq ?_
      obtain rfl : i = L.length := by omega
      rw [List.take_of_length_le (Nat.le_refl _)]
      refine x_region ?_
      refine s_val rfl (v_move rfl) ?_
      refine s_val rfl (v_move rfl) ?_
      refine s_val rfl (v_nilCheck rfl) ?_
      refine s_val rfl (v_fieldAddr rfl Try.underlying96 rfl Try.sizeOf76 rfl (by first | exact Nat.zero_add _ | rfl)) ?_
      refine s_do0 (d_store Try.sizeOf76 rfl rfl rfl (Nat.le_of_ble_eq_true rfl) SetL.eq) ?_
      rintro _ _ rfl
      refine x_nil ?_
      refine n_then ?_
      refine x_seq ?_
      refine x_region ?_
      refine s_val rfl (v_move rfl) ?_
      refine s_val rfl (v_assign rfl) ?_
      refine x_nil ?_
      refine n_then ?_
      refine x_ret ?_
      refine x_done (.inl rfl) (.cons (r_tmp rfl) .nil) ?_
      exact ⟨_, ⟨rfl, rfl⟩, ent_rt (by rw [List.length_map]) rfl⟩
end Go.Proofs.Ytechkfopkpkigaa
