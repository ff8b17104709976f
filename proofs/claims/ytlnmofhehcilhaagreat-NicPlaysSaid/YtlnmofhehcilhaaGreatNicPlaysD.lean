/-
  Part 4 of the proof of NicPlays: rules, and walks of functions. Conditions: none.
-/
import Derived.Test.YtlnmofhehcilhaaGreatNicPlaysC
namespace Go.Proofs.YtlnmofhehcilhaaGreat
open Go.RowKit
set_option linter.unusedSimpArgs false
set_option linter.unusedVariables false
set_option maxRecDepth 20000
theorem frmB_iff {len : Nat} {pg : List Pl} {n : Int} : frmB len pg n = true ↔ thereB pg n = true ∧ n < 8 ∧ (gGot pg n).1 < len := by
  unfold frmB; rw [Bool.and_eq_true, Bool.and_eq_true]
  exact ⟨fun h => ⟨h.1.1, of_decide_eq_true h.1.2, of_decide_eq_true h.2⟩, fun h => ⟨⟨h.1, decide_eq_true h.2.1⟩, decide_eq_true h.2.2⟩⟩
def plcV (len : Nat) (pg : List Pl) (a : Nat) : Value := if frmB len pg (pgI a) then .tuple #[.int .i64 (whr pg a), .int .i64 (a % 64 : Nat), .bool true] else .tuple #[.int .i64 0, .int .i64 0, .bool false]
theorem rvPlace_spec (W0 : World) (R : List HP) (qv qs qm d : Nat) (fr : List Frm) (pg : List Pl) (h : Pgs pg) (pa : Nat) (hpa : pa < 4294967296) :
    Spec Tryz.prog W0 178 [.pointer (some ⟨qv, 0, none⟩), .int .i64 pa] (pt qv (rvO qs qm d) :: rstoH qs fr :: pt qm (rgO pg) :: R)
      (fun v B => v = plcV fr.length pg pa ∧ B = pt qv (rvO qs qm d) :: rstoH qs fr :: pt qm (rgO pg) :: R) := by
  refine spec_body Tryz.func178 Tryz.ntmps178 rfl rfl ?_
  refine x_seq (x_region (s_val rfl (v_assign rfl) (s_val rfl (v_assign rfl) (s_val rfl (v_assign rfl) (x_nil (n_then (x_seq (x_region (s_val rfl (v_move rfl) ?_)))))))))
  refine s_val rfl (v_quo rfl rfl (by decide) ((congrArg (IntKind.wrap .i64) (tdivN pa 64)).trans (w64 (by omega)))) ?_
  refine s_val rfl (v_assign rfl) (x_nil (n_then (x_seq (x_seq (x_region (s_val rfl (v_move rfl) (s_val rfl (v_geq rfl rfl) (x_nil (n_then ?_)))))))))
  refine x_if rfl ?_ ?_
  · intro c2
    refine x_seq (x_region (s_val rfl (v_assign rfl) (s_val rfl (v_assign rfl) (s_val rfl (v_assign rfl) (x_nil (n_then (x_ret (r_then (x_done (.inl rfl) (.cons (r_tmp rfl) (.cons (r_tmp rfl) (.cons (r_tmp rfl) .nil))) ?_)))))))))
    refine ⟨_, ⟨?_, rfl⟩, inferInstance⟩
    have hb : frmB fr.length pg (pgI pa) = false := by
      rw [← Bool.not_eq_true]; rw [frmB_iff, pgI]; rintro ⟨_, q, _⟩; omega
    simp [pack, plcV, hb]
  · intro c2
    refine x_skip (n_then (x_seq (x_region (s_val rfl (v_move rfl) (s_val rfl (v_nilCheck rfl) ?_)))))
    refine s_val rfl (v_fieldAddr rfl Tryz.underlying87 rfl Tryz.sizeOf84 rfl (by first | exact Nat.zero_add _ | rfl)) ?_
    refine s_val rfl (v_load Tryz.isAgg84 rfl (cell_own rfl)) ?_
    refine s_val rfl (v_move rfl) (s_do rfl (d_call1 Tryz.call202 rfl (rgGet_spec W0 _ qm pg h ((pa / 64 : Nat) : Int))) ?_)
    rintro _ B_ ⟨rfl, hB_⟩
    obtain rfl := hB_.symm
    refine s_val rfl (v_move rfl) (s_val rfl (v_extract rfl rfl) (s_val rfl (v_extract rfl rfl) (s_do rfl (d_allocA Tryz.zeroValue153) ?_)))
    rintro _ _ ⟨bp, rfl, rfl⟩
    refine s_do0 (d_storeAll Tryz.sizeOf153 rfl rfl rfl rfl rfl) ?_
    rintro _ _ rfl
    refine s_val rfl (v_assign rfl) (x_nil (n_then (x_seq (x_seq ?_))))
    refine x_draw [(bp, 0, _), (qv, 0, _)] 12 mixed rfl (sc_own (sc_own sc_end)) (fun hS => ?_)
    refine d_take 0 rfl rfl (by kernel_rfl) (by kernel_rfl) (by kernel_rfl) rfl hS (v_move rfl) ?_
    refine d_take 1 rfl rfl (by kernel_rfl) (by kernel_rfl) (by kernel_rfl) rfl hS (v_not rfl) ?_
    refine d_take 2 rfl rfl (by kernel_rfl) (by kernel_rfl) (by kernel_rfl) rfl hS (v_move rfl) ?_
    refine x_split (t := 25) rfl ?_ ?_
    · intro g5_3
      refine d_skip 3 rfl rfl (by kernel_rfl) (by kernel_rfl) (by kernel_rfl) rfl hS ?_
      refine d_skip 4 rfl rfl (by kernel_rfl) (by kernel_rfl) (by kernel_rfl) rfl hS ?_
      refine d_skip 5 rfl rfl (by kernel_rfl) (by kernel_rfl) (by kernel_rfl) rfl hS ?_
      refine d_skip 6 rfl rfl (by kernel_rfl) (by kernel_rfl) (by kernel_rfl) rfl hS ?_
      refine d_skip 7 rfl rfl (by kernel_rfl) (by kernel_rfl) (by kernel_rfl) rfl hS ?_
      refine d_skip 8 rfl rfl (by kernel_rfl) (by kernel_rfl) (by kernel_rfl) rfl hS ?_
      refine d_skip 9 rfl rfl (by kernel_rfl) (by kernel_rfl) (by kernel_rfl) rfl hS ?_
      refine d_skip 10 rfl rfl (by kernel_rfl) (by kernel_rfl) (by kernel_rfl) rfl hS ?_
      refine d_take 11 rfl rfl (by kernel_rfl) (by kernel_rfl) (by kernel_rfl) rfl hS (v_pick_t rfl rfl) ?_
      refine d_done (by kernel_rfl) ?_; clear hS
      refine n_then (x_ift rfl (x_seq (x_region (s_val rfl (v_assign rfl) (s_val rfl (v_assign rfl) (s_val rfl (v_assign rfl) (x_nil (n_then (x_ret (r_then (x_done (.inl rfl) (.cons (r_tmp rfl) (.cons (r_tmp rfl) (.cons (r_tmp rfl) .nil))) ?_)))))))))))
      refine ⟨_, ⟨?_, rfl⟩, inferInstance⟩
      have hb : frmB fr.length pg (pgI pa) = false := by
        rw [← Bool.not_eq_true]; rw [frmB_iff, pgI]
        rintro ⟨q1, q2, q3⟩
        first
          | exact g5_3 q1
          | (have hk := okPl_iff.1 (gGot_ok h q1); rw [isF_iff] at c5; omega)
      simp [pack, plcV, hb]
    · intro g5_3
      refine d_take 3 rfl rfl (by kernel_rfl) (by kernel_rfl) (by kernel_rfl) rfl hS (v_move rfl) ?_
      refine d_take 4 rfl rfl (by kernel_rfl) (by kernel_rfl) (by kernel_rfl) rfl hS (v_nilCheck rfl) ?_
      refine d_take 5 rfl rfl (by kernel_rfl) (by kernel_rfl) (by kernel_rfl) rfl hS (v_fieldAddr rfl Tryz.underlying87 rfl Tryz.sizeOf83 rfl (by first | exact Nat.zero_add _ | rfl)) ?_
      refine d_take 6 rfl rfl (by kernel_rfl) (by kernel_rfl) (by kernel_rfl) rfl hS (v_load Tryz.isAgg83 rfl (by first | exact cell_sc0 (k := 0) rfl rfl | exact cell_sc0 (k := 1) rfl rfl)) ?_
      refine d_take 7 rfl rfl (by kernel_rfl) (by kernel_rfl) (by kernel_rfl) rfl hS (v_fieldAddr rfl Tryz.underlying153 rfl Tryz.sizeOf3 rfl (by first | exact Nat.zero_add _ | rfl)) ?_
      refine d_take 8 rfl rfl (by kernel_rfl) (by kernel_rfl) (by kernel_rfl) rfl hS (v_load Tryz.isAgg3 rfl (by first | exact cell_sc0 (k := 0) rfl rfl | exact cell_sc0 (k := 1) rfl rfl)) ?_
      refine d_one 9 (by kernel_rfl) rfl rfl (d_call1 Tryz.call203 rfl (rfIs_spec W0 _ qs fr _)) rfl ?_; clear hS
      rintro _ B_ ⟨rfl, hB_⟩
      obtain rfl := hB_.symm
      refine ⟨(sc_own (sc_own sc_end)), fun hS => ?_⟩
      refine d_take 10 rfl rfl (by kernel_rfl) (by kernel_rfl) (by kernel_rfl) rfl hS (v_not rfl) ?_
      refine d_take 11 rfl rfl (by kernel_rfl) (by kernel_rfl) (by kernel_rfl) rfl hS (v_pick_f rfl rfl) ?_
      refine d_done (by kernel_rfl) ?_; clear hS
      refine n_then ?_
      refine x_if rfl ?_ ?_
      · intro c5
        refine x_seq (x_region (s_val rfl (v_assign rfl) (s_val rfl (v_assign rfl) (s_val rfl (v_assign rfl) (x_nil (n_then (x_ret (r_then (x_done (.inl rfl) (.cons (r_tmp rfl) (.cons (r_tmp rfl) (.cons (r_tmp rfl) .nil))) ?_)))))))))
        refine ⟨_, ⟨?_, rfl⟩, inferInstance⟩
        have hb : frmB fr.length pg (pgI pa) = false := by
          rw [← Bool.not_eq_true]; rw [frmB_iff, pgI]
          rintro ⟨q1, q2, q3⟩
          first
            | exact g5_3 q1
            | (have hk := okPl_iff.1 (gGot_ok h q1); rw [isF_iff] at c5; omega)
        simp [pack, plcV, hb]
      · intro c5
        refine x_skip (n_then (x_seq (x_region ?_)))
        refine s_val rfl (v_fieldAddr rfl Tryz.underlying153 rfl Tryz.sizeOf3 rfl (by first | exact Nat.zero_add _ | rfl)) ?_
        refine s_val rfl (v_load Tryz.isAgg3 rfl (cell_own rfl)) ?_
        refine s_val rfl (v_move rfl) ?_
        refine s_val rfl (v_rem rfl rfl (by decide) (tmodN pa 64)) ?_
        refine s_val rfl (v_assign rfl) (s_val rfl (v_assign rfl) (s_val rfl (v_assign rfl) (x_nil (n_then (x_ret (x_done (.inl rfl) (.cons (r_tmp rfl) (.cons (r_tmp rfl) (.cons (r_tmp rfl) .nil))) ?_))))))
        refine ⟨_, ⟨?_, rfl⟩, inferInstance⟩
        have hb : frmB fr.length pg (pgI pa) = true := by
          rw [frmB_iff, pgI]
          rw [Decidable.not_not, isF_iff] at c5
          exact ⟨Decidable.not_not.1 g5_3, by omega, by omega⟩
        rw [plcV, if_pos hb]; rfl
def plF (len : Nat) (pg : List Pl) (a : Nat) : Int := if frmB len pg (pgI a) then whr pg a else 0
def plO (len : Nat) (pg : List Pl) (a : Nat) : Int := if frmB len pg (pgI a) then ((a % 64 : Nat) : Int) else 0
theorem plcV_eq {len : Nat} {pg : List Pl} {a : Nat} : plcV len pg a = .tuple #[.int .i64 (plF len pg a), .int .i64 (plO len pg a), .bool (frmB len pg (pgI a))] := by
  unfold plcV plF plO; cases frmB len pg (pgI a) <;> rfl
theorem plF_ok {len : Nat} {pg : List Pl} {a : Nat} (h : frmB len pg (pgI a) = true) : plF len pg a = whr pg a := if_pos h
theorem plO_ok {len : Nat} {pg : List Pl} {a : Nat} (h : frmB len pg (pgI a) = true) : plO len pg a = ((a % 64 : Nat) : Int) := if_pos h
theorem rvOwn_spec (W0 : World) (R : List HP) (qv qs qm d : Nat) (fr : List Frm) (pg : List Pl) (h : Pgs pg) (pa : Nat) (hpa : pa < 4294967296) (n : Int) :
    Spec Tryz.prog W0 177 [.pointer (some ⟨qv, 0, none⟩), .int .u32 pa, .int .i64 n] (pt qv (rvO qs qm d) :: rstoH qs fr :: pt qm (rgO pg) :: R)
      (fun v B => v = .bool (ownB fr.length pg pa n) ∧ B = pt qv (rvO qs qm d) :: rstoH qs fr :: pt qm (rgO pg) :: R) := by
  refine spec_body Tryz.func177 Tryz.ntmps177 rfl rfl ?_
  refine x_seq (x_region (s_val rfl (v_assign rfl) (x_nil (n_then (x_seq (x_seq (x_region (s_val rfl (v_move rfl) (s_val rfl (v_lss rfl rfl) (s_val rfl (v_move rfl) ?_))))))))))
  refine s_or rfl rfl rfl ?_ ?_
  · intro g1_3
    refine s_no rfl rfl rfl rfl (s_val rfl (v_pick_t rfl rfl) (s_val rfl (v_move rfl) (s_no rfl rfl rfl rfl (s_no rfl rfl rfl rfl (s_no rfl rfl rfl rfl (s_no rfl rfl rfl rfl (s_no rfl rfl rfl rfl (s_val rfl (v_pick_t rfl rfl) (x_nil (n_then (x_ift rfl (x_seq (x_region (s_val rfl (v_assign rfl) (x_nil (n_then (x_ret (r_then (x_done (.inl rfl) (.cons (r_tmp rfl) .nil) ?_)))))))))))))))))))
    refine ⟨_, ⟨?_, rfl⟩, inferInstance⟩
    refine congrArg Value.bool (Eq.symm ?_)
    rw [← Bool.not_eq_true, ownB_iff]; omega
  · intro g1_3
    refine s_val rfl (v_move rfl) (s_yes rfl rfl (s_val rfl (v_gtr rfl rfl) (s_val rfl (v_pick_f rfl rfl) (s_val rfl (v_move rfl) ?_))))
    refine s_or rfl rfl rfl ?_ ?_
    · intro g1_7
      refine s_no rfl rfl rfl rfl (s_no rfl rfl rfl rfl (s_no rfl rfl rfl rfl (s_no rfl rfl rfl rfl (s_val rfl (v_pick_t rfl rfl) (x_nil (n_then (x_ift rfl (x_seq (x_region (s_val rfl (v_assign rfl) (x_nil (n_then (x_ret (r_then (x_done (.inl rfl) (.cons (r_tmp rfl) .nil) ?_)))))))))))))))
      refine ⟨_, ⟨?_, rfl⟩, inferInstance⟩
      refine congrArg Value.bool (Eq.symm ?_)
      rw [← Bool.not_eq_true, ownB_iff]; omega
    · intro g1_7
      refine s_val rfl (v_move rfl) (s_yes rfl rfl (s_val rfl (v_move rfl) (s_yes rfl rfl ?_)))
      refine s_val rfl (v_conv Tryz.underlying47 Tryz.underlying3 rfl (by first | exact w64 (by omega) | rfl)) ?_
      refine s_yes rfl rfl ?_
      refine s_val rfl (v_sub rfl rfl (by first | exact w64 (by omega) | rfl)) ?_
      refine s_yes rfl rfl (s_val rfl (v_gtr rfl rfl) (s_val rfl (v_pick_f rfl rfl) (x_nil (n_then ?_))))
      refine x_if rfl ?_ ?_
      · intro c1
        refine x_seq (x_region (s_val rfl (v_assign rfl) (x_nil (n_then (x_ret (r_then (x_done (.inl rfl) (.cons (r_tmp rfl) .nil) ?_)))))))
        refine ⟨_, ⟨?_, rfl⟩, inferInstance⟩
        refine congrArg Value.bool (Eq.symm ?_)
        rw [← Bool.not_eq_true, ownB_iff]; omega
      · intro c1
        refine x_skip (n_then (x_seq (x_seq ?_)))
        obtain ⟨k, rfl⟩ : ∃ k : Nat, n = (k : Int) := ⟨n.toNat, by omega⟩
        have hk : pa + k ≤ 512 := by omega
        refine x_region (s_val rfl (v_assign rfl) (x_nil (n_then (x_block ?_))))
        refine x_loop (fun i : Nat => i ≤ k ∧ ownA fr.length pg pa i) (fun i => [(0, .pointer (some ⟨qv, 0, none⟩)), (1, .int .u32 pa), (2, .int .i64 k), (7, .int .i64 i)]) (fun i => pt qv (rvO qs qm d) :: rstoH qs fr :: pt qm (rgO pg) :: R) (fun i => k - i) 0 ?_ ?_ ?_ ?_
        · exact ⟨Nat.zero_le _, fun i hi => by omega⟩
        · repeat (first | exact sub_nil | refine sub_cons rfl ?_)
        · exact inferInstance
        · intro i ⟨hi, hI⟩
          refine x_seq (x_seq (x_region (s_val rfl (v_move rfl) (s_val rfl (v_move rfl) (s_val rfl (v_lss rfl rfl) (x_nil (n_then ?_)))))))
          refine x_if rfl ?_ ?_
          · intro c4
            refine x_skip (n_then (x_seq (x_block (x_seq (x_region (s_val rfl (v_move rfl) (s_val rfl (v_move rfl) ?_)))))))
            refine s_val rfl (v_conv Tryz.underlying47 Tryz.underlying3 rfl (w64 (by omega))) ?_
            refine s_val rfl (v_move rfl) ?_
            refine s_val rfl (v_add rfl rfl (by rw [w64 (by omega)]; omega : IntKind.wrap .i64 ((pa : Int) + (i : Int)) = ((pa + i : Nat) : Int))) ?_
            refine s_do rfl (d_call3 Tryz.call178 rfl (rvPlace_spec W0 _ qv qs qm d fr pg h (pa + i) (by omega))) ?_
            rintro _ B_ ⟨rfl, hB_⟩
            obtain rfl := hB_.symm
            rw [plcV_eq]
            refine s_val rfl (v_move rfl) (s_val rfl (v_extract rfl rfl) (s_val rfl (v_extract rfl rfl) (s_val rfl (v_extract rfl rfl) (s_val rfl (v_assign rfl) (s_val rfl (v_assign rfl) (s_val rfl (v_assign rfl) (x_nil (n_then (x_seq (x_region (s_val rfl (v_move rfl) (s_val rfl (v_not rfl) (x_nil (n_then ?_))))))))))))))
            refine x_if rfl ?_ ?_
            · intro c7
              refine x_seq (x_region (s_val rfl (v_assign rfl) (x_nil (n_then (x_ret (r_block (r_then (r_then (r_block (r_then (x_done (.inl rfl) (.cons (r_tmp rfl) .nil) ?_)))))))))))
              refine ⟨_, ⟨?_, rfl⟩, inferInstance⟩
              refine congrArg Value.bool (Eq.symm ?_)
              rw [← Bool.not_eq_true, ownB_nat]; exact fun q => c7 (q.2 i (by omega))
            · intro c7
              refine x_skip (n_block (n_then (x_region (s_val rfl (v_move rfl) ?_))))
              refine s_val rfl (v_add rfl rfl (by first | exact w64 (by omega) | rfl)) ?_
              refine s_val rfl (v_assign rfl) (x_nil (n_then ?_))
              refine inv_intro (i + 1) ?_ ?_ ?_ ?_
              · exact ⟨by omega, fun j hj => by
                  rcases Nat.lt_or_ge j i with q | q
                  · exact hI j q
                  · rw [show j = i by omega]; exact Decidable.not_not.1 c7⟩
              · omega
              · repeat (first | exact sub_nil | refine sub_cons rfl ?_)
              · exact inferInstance
          · intro c4
            refine x_exit (e_then (e_then (e_block (n_then (x_seq (x_region (s_val rfl (v_assign rfl) (x_nil (n_then (x_ret (x_done (.inl rfl) (.cons (r_tmp rfl) .nil) ?_)))))))))))
            refine ⟨_, ⟨?_, rfl⟩, inferInstance⟩
            refine congrArg Value.bool (Eq.symm ?_)
            rw [ownB_nat]; exact ⟨hk, by rw [show k = i by omega]; exact hI⟩
theorem rvRead_spec (W0 : World) (R : List HP) (qv qs qm d : Nat) (fr : List Frm) (pg : List Pl) (h : Pgs pg) (hF : Frs fr) (pa : Nat) (hpa : pa < 4294967296) (n : Int) :
    Spec Tryz.prog W0 192 [.pointer (some ⟨qv, 0, none⟩), .int .u32 pa, .int .i64 n] (pt qv (rvO qs qm d) :: rstoH qs fr :: pt qm (rgO pg) :: R)
      (fun v B => ∃ a c, v = .tuple #[.slice a (rdO fr pg pa n).length c, .bool (ownB fr.length pg pa n)] ∧ B = osl 5 1 (.slice a (rdO fr pg pa n).length c) (byV (rdO fr pg pa n)) :: pt qv (rvO qs qm d) :: rstoH qs fr :: pt qm (rgO pg) :: R) := by
  by_cases ho : ownB fr.length pg pa n = true
  · obtain ⟨k, rfl⟩ : ∃ k : Nat, n = (k : Int) := ⟨n.toNat, by have := (ownB_iff.1 ho).1; omega⟩
    obtain ⟨hk, hown⟩ := ownB_nat.1 ho
    have hr : rdO fr pg pa (k : Int) = rdL fr pg pa k := by rw [rdO, if_pos ho]; rfl
    rw [hr, rdL_len, ho]
    refine spec_body Tryz.func192 Tryz.ntmps192 rfl rfl ?_
    refine x_seq (x_region (s_val rfl (v_assign rfl) (s_val rfl (v_assign rfl) (x_nil (n_then (x_seq (x_seq (x_region (s_val rfl (v_move rfl) (s_val rfl (v_move rfl) (s_val rfl (v_move rfl) (s_do rfl (d_call3 Tryz.call177 rfl (rvOwn_spec W0 _ qv qs qm d fr pg h pa hpa k)) ?_))))))))))))
    rintro _ B_ ⟨rfl, hB_⟩
    obtain rfl := hB_.symm
    refine s_val rfl (v_not rfl) (x_nil (n_then ?_))
    refine x_if rfl ?_ ?_
    · intro c1
      exact absurd ho c1
    · intro c1
      refine x_skip (n_then (x_seq (x_region (s_val rfl (v_assign rfl) (x_nil (n_then (x_seq (x_seq (x_region (s_val rfl (v_assign rfl) (x_nil (n_then (x_block ?_)))))))))))))
      refine x_loop (fun x : Nat × Option Addr × Nat => x.1 ≤ k) (fun x => [(0, .pointer (some ⟨qv, 0, none⟩)), (1, .int .u32 pa), (2, .int .i64 k), (8, .slice x.2.1 x.1 x.2.2), (9, .int .i64 x.1)]) (fun x => osl 5 1 (.slice x.2.1 x.1 x.2.2) (byV (rdL fr pg pa x.1)) :: pt qv (rvO qs qm d) :: rstoH qs fr :: pt qm (rgO pg) :: R) (fun x => k - x.1) (0, none, 0) ?_ ?_ ?_ ?_
      · simp
      · repeat (first | exact sub_nil | refine sub_cons rfl ?_)
      · exact ent_osl_nil
      · intro ⟨i, a, c⟩ hi
        dsimp only at hi ⊢
        refine x_seq (x_seq (x_region (s_val rfl (v_move rfl) (s_val rfl (v_move rfl) (s_val rfl (v_lss rfl rfl) (x_nil (n_then ?_)))))))
        refine x_if rfl ?_ ?_
        · intro c5
          refine x_skip (n_then (x_seq (x_block (x_seq ?_))))
          have hb := hown i (by omega)
          have hv := rdv_lt hF pg (pa + i)
          refine x_region (s_val rfl (v_move rfl) (s_val rfl (v_move rfl) ?_))
          refine s_val rfl (v_conv Tryz.underlying47 Tryz.underlying3 rfl (w64 (by omega))) ?_
          refine s_val rfl (v_move rfl) ?_
          refine s_val rfl (v_add rfl rfl (by rw [w64 (by omega)]; omega : IntKind.wrap .i64 ((pa : Int) + (i : Int)) = ((pa + i : Nat) : Int))) ?_
          refine s_do rfl (d_call3 Tryz.call178 rfl (rvPlace_spec W0 _ qv qs qm d fr pg h (pa + i) (by omega))) ?_
          rintro _ B_ ⟨rfl, hB_⟩
          obtain rfl := hB_.symm
          rw [plcV_eq, plF_ok hb, plO_ok hb]
          refine s_val rfl (v_move rfl) (s_val rfl (v_extract rfl rfl) (s_val rfl (v_extract rfl rfl) (s_val rfl (v_extract rfl rfl) (s_val rfl (v_assign rfl) (s_val rfl (v_assign rfl) (s_val rfl (v_assign rfl) (x_nil (n_then (x_seq (x_region (s_val rfl (v_move rfl) (s_val rfl (v_nilCheck rfl) ?_))))))))))))
          refine s_val rfl (v_fieldAddr rfl Tryz.underlying87 rfl Tryz.sizeOf83 rfl (by first | exact Nat.zero_add _ | rfl)) ?_
          refine s_val rfl (v_load Tryz.isAgg83 rfl (cell_own rfl)) ?_
          refine s_val rfl (v_move rfl) (s_val rfl (v_move rfl) (s_do rfl (d_call1 Tryz.call255 rfl (rfLoad_spec W0 _ qs fr _ _ 1 hF)) ?_))
          rintro _ B_ ⟨rfl, hB_⟩
          obtain rfl := hB_.symm
          refine s_val rfl (v_move rfl) (s_val rfl (v_extract rfl rfl) (s_val rfl (v_extract rfl rfl) (s_val rfl (v_assign rfl) (s_val rfl (v_assign rfl) (x_nil (n_then (x_region (s_val rfl (v_move rfl) (s_val rfl (v_move rfl) ?_)))))))))
          refine s_val rfl (v_conv Tryz.underlying47 Tryz.underlying5 rfl (w8u (by rw [show ldN fr (whr pg (pa + i)) (((pa + i) % 64 : Nat) : Int) 1 = rdv fr pg (pa + i) from rfl]; omega))) ?_
          refine s_do rfl (d_sliceLit Tryz.underlying44 Tryz.sizeOf5 Tryz.zeroValue5 rfl rfl rfl rfl rfl (by decide) (by decide)) ?_
          rintro _ _ ⟨b1, rfl, rfl⟩
          refine s_do rfl (d_append (sz := 1) (by_ := 1) (info := Tryz.t5) Tryz.underlying44 (by kernel_rfl) rfl rfl rfl rfl (by decide) rfl rfl cells_all rfl rfl (by simp only [maxLen]; omega) (by omega)) ?_
          rintro _ _ ⟨a1, c1, rfl, rfl⟩
          refine s_val rfl (v_assign rfl) (x_nil (n_block (n_then (x_region (s_val rfl (v_move rfl) ?_)))))
          refine s_val rfl (v_add rfl rfl (by first | exact w64 (by omega) | rfl)) ?_
          refine s_val rfl (v_assign rfl) (x_nil (n_then ?_))
          refine inv_intro (i + 1, a1, c1) ?_ ?_ ?_ ?_
          · omega
          · omega
          · repeat (first | exact sub_nil | refine sub_cons rfl ?_)
          · rw [show rdL fr pg pa (i + 1) = rdL fr pg pa i ++ [rdv fr pg (pa + i)] by simp [rdL, List.range_succ], byV_append]; exact (inferInstanceAs (Ent _ (osl 5 1 (.slice a1 (i + 1) c1) (byV (rdL fr pg pa i) ++ [Value.int .u8 ((ldN fr (whr pg (pa + i)) (((pa + i) % 64 : Nat) : Int) 1 : Nat) : Int)]) :: pt qv (rvO qs qm d) :: rstoH qs fr :: pt qm (rgO pg) :: R)))
        · intro c5
          refine x_exit (e_then (e_then (e_block (n_then (x_seq (x_region (s_val rfl (v_move rfl) (s_val rfl (v_assign rfl) (s_val rfl (v_assign rfl) (x_nil (n_then (x_ret (x_done (.inl rfl) (.cons (r_tmp rfl) (.cons (r_tmp rfl) .nil)) ?_)))))))))))))
          have e1 : i = k := by omega
          subst e1
          exact ⟨_, ⟨a, c, rfl, rfl⟩, inferInstance⟩
  · have hr : rdO fr pg pa n = [] := by rw [rdO, if_neg ho]
    have ho' : ownB fr.length pg pa n = false := by simpa using ho
    rw [hr, ho']
    refine spec_body Tryz.func192 Tryz.ntmps192 rfl rfl ?_
    refine x_seq (x_region (s_val rfl (v_assign rfl) (s_val rfl (v_assign rfl) (x_nil (n_then (x_seq (x_seq (x_region (s_val rfl (v_move rfl) (s_val rfl (v_move rfl) (s_val rfl (v_move rfl) (s_do rfl (d_call3 Tryz.call177 rfl (rvOwn_spec W0 _ qv qs qm d fr pg h pa hpa n)) ?_))))))))))))
    rintro _ B_ ⟨rfl, hB_⟩
    obtain rfl := hB_.symm
    refine s_val rfl (v_not rfl) (x_nil (n_then ?_))
    refine x_if rfl ?_ ?_
    · intro c1
      refine x_seq (x_region (s_val rfl (v_assign rfl) (s_val rfl (v_assign rfl) (x_nil (n_then (x_ret (r_then (x_done (.inl rfl) (.cons (r_tmp rfl) (.cons (r_tmp rfl) .nil)) ?_))))))))
      exact ⟨_, ⟨none, 0, rfl, rfl⟩, ent_osl_nil⟩
    · intro c1
      exact absurd (by rw [ho']; decide) c1
theorem rvWrite_spec (W0 : World) (R : List HP) (qv qs qm d c : Nat) (a : Option Addr) (fr : List Frm) (pg : List Pl) (h : Pgs pg) (hF : Frs fr) (pa : Nat) (hpa : pa < 4294967296) (bs : List Nat) (hb : By bs) (hs : SlA (OwnP W0 R) a 1 (fun x => [bV x]) bs) (hlen : bs.length < 9223372036854775808) :
    Spec Tryz.prog W0 89 [.pointer (some ⟨qv, 0, none⟩), .int .u32 pa, .slice a bs.length c] (pt qv (rvO qs qm d) :: rstoH qs fr :: pt qm (rgO pg) :: R)
      (fun v B => v = .bool (ownB fr.length pg pa bs.length) ∧ B = pt qv (rvO qs qm (wrE fr pg pa d bs.length)) :: rstoH qs (wrF fr pg pa bs) :: pt qm (rgO pg) :: R) := by
  by_cases ho : ownB fr.length pg pa bs.length = true
  · obtain ⟨hk, hown⟩ := ownB_nat.1 ho
    rw [wrE, if_pos ho, wrF, if_pos ho, ho]
    refine spec_body Tryz.func89 Tryz.ntmps89 rfl rfl ?_
    refine x_seq (x_region (s_val rfl (v_assign rfl) (x_nil (n_then (x_seq (x_seq (x_region (s_val rfl (v_move rfl) (s_val rfl (v_move rfl) (s_val rfl (v_move rfl) (s_val rfl (v_len_slice Tryz.underlying44 rfl) (s_do rfl (d_call3 Tryz.call177 rfl (rvOwn_spec W0 _ qv qs qm d fr pg h pa hpa bs.length)) ?_))))))))))))
    rintro _ B_ ⟨rfl, hB_⟩
    obtain rfl := hB_.symm
    refine s_val rfl (v_not rfl) (x_nil (n_then ?_))
    refine x_if rfl ?_ ?_
    · intro c1
      exact absurd ho c1
    · intro c1
      refine x_skip (n_then (x_seq (x_seq (x_region (s_val rfl (v_assign rfl) (x_nil (n_then (x_block ?_))))))))
      refine x_loop (fun i : Nat => i ≤ bs.length) (fun i => [(0, .pointer (some ⟨qv, 0, none⟩)), (1, .int .u32 pa), (2, .slice a bs.length c), (7, .int .i64 i)]) (fun i => pt qv (rvO qs qm (wrD d pa i)) :: rstoH qs (wrK fr pg pa bs i) :: pt qm (rgO pg) :: R) (fun i => bs.length - i) 0 ?_ ?_ ?_ ?_
      · exact Nat.zero_le _
      · repeat (first | exact sub_nil | refine sub_cons rfl ?_)
      · simp only [wrD, wrK]; exact inferInstance
      · intro i hi
        refine x_seq (x_seq (x_region (s_val rfl (v_move rfl) (s_val rfl (v_move rfl) (s_val rfl (v_len_slice Tryz.underlying44 rfl) (s_val rfl (v_lss rfl rfl) (x_nil (n_then ?_))))))))
        refine x_if rfl ?_ ?_
        · intro c4
          refine x_skip (n_then (x_seq (x_block (x_seq ?_))))
          have hil : i < bs.length := by omega
          have hfb := hown i hil
          obtain ⟨hFi, hli⟩ := wrK_ok (pg := pg) (pa := pa) (bs := bs) hF i
          obtain ⟨gb, ob, rfl, hc⟩ := hs.at_ hil
          have hx : bs[i] < 256 := hb.get hil
          have hg : bs.getD i 0 = bs[i] := by simp [List.getD, hil]
          refine x_region (s_val rfl (v_move rfl) (s_val rfl (v_move rfl) ?_))
          refine s_val rfl (v_conv Tryz.underlying47 Tryz.underlying3 rfl (w64 (by omega))) ?_
          refine s_val rfl (v_move rfl) ?_
          refine s_val rfl (v_add rfl rfl (by rw [w64 (by omega)]; omega : IntKind.wrap .i64 ((pa : Int) + (i : Int)) = ((pa + i : Nat) : Int))) ?_
          refine s_do rfl (d_call3 Tryz.call178 rfl (rvPlace_spec W0 _ qv qs qm _ _ pg h (pa + i) (by omega))) ?_
          rintro _ B_ ⟨rfl, hB_⟩
          obtain rfl := hB_.symm
          rw [hli, plcV_eq, plF_ok hfb, plO_ok hfb]
          refine s_val rfl (v_move rfl) (s_val rfl (v_extract rfl rfl) (s_val rfl (v_extract rfl rfl) (s_val rfl (v_extract rfl rfl) (s_val rfl (v_assign rfl) (s_val rfl (v_assign rfl) (s_val rfl (v_assign rfl) (x_nil (n_then (x_seq ?_)))))))))
          refine x_draw [(qv, 0, _), (gb, ob + i * 1, [bV bs[i]])] 12 mixed rfl (sc_own (sc_cons hc.weak sc_end)) (fun hS => ?_)
          refine d_take 0 rfl rfl (by kernel_rfl) (by kernel_rfl) (by kernel_rfl) rfl hS (v_move rfl) ?_
          refine d_take 1 rfl rfl (by kernel_rfl) (by kernel_rfl) (by kernel_rfl) rfl hS (v_nilCheck rfl) ?_
          refine d_take 2 rfl rfl (by kernel_rfl) (by kernel_rfl) (by kernel_rfl) rfl hS (v_fieldAddr rfl Tryz.underlying87 rfl Tryz.sizeOf83 rfl (by first | exact Nat.zero_add _ | rfl)) ?_
          refine d_take 3 rfl rfl (by kernel_rfl) (by kernel_rfl) (by kernel_rfl) rfl hS (v_load Tryz.isAgg83 rfl (by first | exact cell_sc0 (k := 0) rfl rfl | exact cell_sc0 (k := 1) rfl rfl)) ?_
          refine d_take 4 rfl rfl (by kernel_rfl) (by kernel_rfl) (by kernel_rfl) rfl hS (v_move rfl) ?_
          refine d_take 5 rfl rfl (by kernel_rfl) (by kernel_rfl) (by kernel_rfl) rfl hS (v_move rfl) ?_
          refine d_take 6 rfl rfl (by kernel_rfl) (by kernel_rfl) (by kernel_rfl) rfl hS (v_move rfl) ?_
          refine d_take 7 rfl rfl (by kernel_rfl) (by kernel_rfl) (by kernel_rfl) rfl hS (v_move rfl) ?_
          refine d_take 8 rfl rfl (by kernel_rfl) (by kernel_rfl) (by kernel_rfl) rfl hS (v_idx Tryz.underlying44 Tryz.sizeOf5 rfl rfl rfl hil (by first | exact Nat.zero_add _ | rfl)) ?_
          refine d_take 9 rfl rfl (by kernel_rfl) (by kernel_rfl) (by kernel_rfl) rfl hS (v_load Tryz.isAgg5 rfl (cell_sc1 (k := 1) rfl)) ?_
          refine d_take 10 rfl rfl (by kernel_rfl) (by kernel_rfl) (by kernel_rfl) rfl hS (v_conv Tryz.underlying5 Tryz.underlying47 rfl (w32u (by omega))) ?_
          refine d_one 11 (by kernel_rfl) rfl rfl (d_call1 Tryz.call126 rfl (rfSave_spec W0 _ qs _ _ _ 1 bs[i] (by omega) hFi)) rfl ?_; clear hS
          rintro _ B_ ⟨rfl, hB_⟩
          obtain rfl := hB_.symm
          refine ⟨(sc_own (sc_cons hc.weak sc_end)), fun hS => ?_⟩
          refine d_done (by kernel_rfl) ?_; clear hS
          refine n_then (x_region (s_val rfl (v_move rfl) (s_val rfl (v_move rfl) ?_)))
          refine s_val rfl (v_conv Tryz.underlying47 Tryz.underlying3 rfl (w64 (by omega))) ?_
          refine s_val rfl (v_move rfl) ?_
          refine s_val rfl (v_add rfl rfl (by rw [w64 (by omega)]; omega : IntKind.wrap .i64 ((pa : Int) + (i : Int)) = ((pa + i : Nat) : Int))) ?_
          refine s_val rfl (v_quo rfl rfl (by decide) ((congrArg (IntKind.wrap .i64) (tdivN (pa + i) 64)).trans (w64 (by omega)))) ?_
          refine s_val rfl (v_nilCheck rfl) ?_
          refine s_val rfl (v_fieldAddr rfl Tryz.underlying87 rfl Tryz.sizeOf85 rfl (by first | exact Nat.zero_add _ | rfl)) ?_
          refine s_val rfl (v_idxArr Tryz.underlying85 Tryz.sizeOf4 rfl rfl rfl (by omega) (by first | exact Nat.zero_add _ | rfl)) ?_
          refine s_do0 (d_store Tryz.sizeOf4 rfl rfl rfl (by simp [wrV]; omega) (wr_set (by omega))) ?_
          rintro _ _ rfl
          refine x_nil (n_block (n_then (x_region (s_val rfl (v_move rfl) ?_))))
          refine s_val rfl (v_add rfl rfl (by first | exact w64 (by omega) | rfl)) ?_
          refine s_val rfl (v_assign rfl) (x_nil (n_then ?_))
          refine inv_intro (i + 1) ?_ ?_ ?_ ?_
          · omega
          · omega
          · repeat (first | exact sub_nil | refine sub_cons rfl ?_)
          · simp only [wrD, wrK, hg]; exact inferInstance
        · intro c4
          refine x_exit (e_then (e_then (e_block (n_then (x_seq (x_region (s_val rfl (v_assign rfl) (x_nil (n_then (x_ret (x_done (.inl rfl) (.cons (r_tmp rfl) .nil) ?_)))))))))))
          have e1 : i = bs.length := by omega
          subst e1
          exact ⟨_, ⟨rfl, rfl⟩, inferInstance⟩
  · have ho' : ownB fr.length pg pa bs.length = false := by simpa using ho
    rw [wrE, if_neg ho, wrF, if_neg ho, ho']
    refine spec_body Tryz.func89 Tryz.ntmps89 rfl rfl ?_
    refine x_seq (x_region (s_val rfl (v_assign rfl) (x_nil (n_then (x_seq (x_seq (x_region (s_val rfl (v_move rfl) (s_val rfl (v_move rfl) (s_val rfl (v_move rfl) (s_val rfl (v_len_slice Tryz.underlying44 rfl) (s_do rfl (d_call3 Tryz.call177 rfl (rvOwn_spec W0 _ qv qs qm d fr pg h pa hpa bs.length)) ?_))))))))))))
    rintro _ B_ ⟨rfl, hB_⟩
    obtain rfl := hB_.symm
    refine s_val rfl (v_not rfl) (x_nil (n_then ?_))
    refine x_if rfl ?_ ?_
    · intro c1
      refine x_seq (x_region (s_val rfl (v_assign rfl) (x_nil (n_then (x_ret (r_then (x_done (.inl rfl) (.cons (r_tmp rfl) .nil) ?_)))))))
      exact ⟨_, ⟨rfl, rfl⟩, inferInstance⟩
    · intro c1
      exact absurd (by rw [ho']; decide) c1
end Go.Proofs.YtlnmofhehcilhaaGreat
namespace Go.Proofs.YtlnmofhehcilhaaGreat
open Go.RowKit
set_option linter.unusedSimpArgs false
set_option linter.unusedVariables false
set_option maxRecDepth 20000
def lenW (l : List Dsc) (w : Bool) : Nat := (l.map fun d => if wrB d = w then d.len else 0).sum
theorem lenW_snoc (l : List Dsc) (d : Dsc) (w : Bool) : lenW (l ++ [d]) w = lenW l w + (if wrB d = w then d.len else 0) := by simp [lenW]
theorem lenW_take {l : List Dsc} {i : Nat} (h : i < l.length) (w : Bool) : lenW (l.take (i + 1)) w = lenW (l.take i) w + (if wrB l[i] = w then l[i].len else 0) := by
  rw [List.take_succ_eq_append_getElem h, lenW_snoc]
theorem lenW_le {l : List Dsc} (hl : ∀ d ∈ l, d.ok) (w : Bool) : lenW l w ≤ l.length * 4294967296 := by
  induction l with
  | nil => simp [lenW]
  | cons d l ih =>
    have h1 := (hl d (by simp)).len
    have h2 := ih (fun x hx => hl x (by simp [hx]))
    simp only [lenW, List.map_cons, List.sum_cons, List.length_cons] at h2 ⊢
    split <;> omega
theorem chLen_sla (W0 : World) (R : List HP) (a : Option Addr) (c : Nat) (l : List Dsc) (w : Bool) (hl : ∀ d ∈ l, d.ok) (hn : l.length ≤ 1000) (hs : SlA (OwnP W0 R) a 4 dsV l) :
    Spec Tryz.prog W0 186 [.slice a l.length c, .bool w] R (fun v B => v = .int .i64 (lenW l w : Nat) ∧ B = R) := by
  refine spec_body Tryz.func186 Tryz.ntmps186 rfl rfl ?_
  refine x_seq (x_region (s_val rfl (v_assign rfl) (x_nil (n_then (x_seq (x_region (s_val rfl (v_assign rfl) (x_nil (n_then (x_seq (x_seq (x_region (s_val rfl (v_move rfl) (s_val rfl (v_len_slice Tryz.underlying43 rfl) (s_val rfl (v_move rfl) (x_nil (n_then (x_block ?_))))))))))))))))))
  refine x_loop (fun i : Nat => i ≤ l.length) (fun i => [(1, .bool w), (5, .int .i64 (lenW (l.take i) w : Nat)), (8, .slice a l.length c), (9, .int .i64 l.length), (10, .int .i64 i)]) (fun i => R) (fun i => l.length - i) 0 ?_ ?_ ?_ ?_
  · exact Nat.zero_le _
  · repeat (first | exact sub_nil | refine sub_cons rfl ?_)
  · exact inferInstance
  · intro i hi
    refine x_seq (x_region (s_val rfl (v_lss rfl rfl) (x_nil (n_then (x_seq ?_)))))
    refine x_if rfl ?_ ?_
    · intro c3
      refine x_skip (n_then (x_seq (x_block (x_seq ?_))))
      have hi1 : i < l.length := by omega
      obtain ⟨g, o, rfl, hc⟩ := hs.at_ hi1
      have hd := hl _ (List.getElem_mem hi1)
      have htk := lenW_take hi1 w
      have hle := lenW_le (fun d hd => hl d (List.mem_of_mem_take hd) : ∀ d ∈ l.take i, d.ok) w
      have hti : (l.take i).length = i := by rw [List.length_take]; omega
      have hdl := hd.len
      refine x_region ?_
      refine s_val rfl (v_idx Tryz.underlying43 Tryz.sizeOf99 rfl rfl rfl hi1 (by first | exact Nat.zero_add _ | rfl)) ?_
      refine s_val rfl (v_loadAgg Tryz.isAgg99 Tryz.sizeOf99 rfl hc.weak rfl) ?_
      refine s_do rfl (d_allocA Tryz.zeroValue99) ?_
      rintro _ _ ⟨b1, rfl, rfl⟩
      refine s_do0 (d_storeAll Tryz.sizeOf99 rfl rfl rfl rfl rfl) ?_
      rintro _ _ rfl
      refine x_nil (n_then (x_seq (x_region (s_val rfl (v_loadAll Tryz.isAgg99 Tryz.sizeOf99 rfl rfl) ?_))))
      refine s_do rfl (d_call Tryz.call195 rfl (chWrites_spec W0 _ l[i] hd)) ?_
      rintro _ B_ ⟨rfl, hB_⟩
      obtain rfl := hB_.symm
      refine s_val rfl (v_move rfl) (s_val rfl (v_eql_bool Tryz.underlying4 rfl rfl) ?_)
      refine x_nil (n_then ?_)
      refine x_if rfl ?_ ?_
      · intro c5
        rw [if_pos c5] at htk
        refine x_region (s_val rfl (v_move rfl) ?_)
        refine s_val rfl (v_fieldAddr rfl Tryz.underlying99 rfl Tryz.sizeOf47 rfl (by first | exact Nat.zero_add _ | rfl)) ?_
        refine s_val rfl (v_load Tryz.isAgg47 rfl (cell_own rfl)) ?_
        refine s_val rfl (v_conv Tryz.underlying47 Tryz.underlying3 rfl (w64 (by omega))) ?_
        refine s_val rfl (v_add rfl rfl (by rw [w64 (by omega)]; omega : IntKind.wrap .i64 (((lenW (l.take i) w : Nat) : Int) + ((l[i].len : Nat) : Int)) = ((lenW (l.take i) w + l[i].len : Nat) : Int))) ?_
        refine s_val rfl (v_assign rfl) (x_nil (n_block (n_then (x_region ?_))))
        refine s_val rfl (v_add rfl rfl (by first | exact w64 (by omega) | rfl)) ?_
        refine s_val rfl (v_move rfl) (x_nil (n_then ?_))
        refine inv_intro (i + 1) ?_ ?_ ?_ ?_
        · omega
        · omega
        · rw [htk]; repeat (first | exact sub_nil | refine sub_cons rfl ?_)
        · exact inferInstance
      · intro c5
        rw [if_neg c5, Nat.add_zero] at htk
        refine x_skip (n_block (n_then (x_region ?_)))
        refine s_val rfl (v_add rfl rfl (by first | exact w64 (by omega) | rfl)) ?_
        refine s_val rfl (v_move rfl) (x_nil (n_then ?_))
        refine inv_intro (i + 1) ?_ ?_ ?_ ?_
        · omega
        · omega
        · rw [htk]; repeat (first | exact sub_nil | refine sub_cons rfl ?_)
        · exact inferInstance
    · intro c3
      refine x_exit (e_then (e_then (e_block (n_then (x_seq (x_region (s_val rfl (v_move rfl) (s_val rfl (v_assign rfl) (x_nil (n_then (x_ret (x_done (.inl rfl) (.cons (r_tmp rfl) .nil) ?_))))))))))))
      refine ⟨_, ⟨?_, rfl⟩, inferInstance⟩
      obtain rfl : i = l.length := by omega
      rw [List.take_of_length_le (Nat.le_refl _)]; rfl
theorem chLen_spec (W0 : World) (R : List HP) (a : Option Addr) (c : Nat) (l : List Dsc) (w : Bool) (hl : ∀ d ∈ l, d.ok) (hn : l.length ≤ 1000) :
    Spec Tryz.prog W0 186 [.slice a l.length c, .bool w] (osl 99 4 (.slice a l.length c) (l.flatMap dsV) :: R) (fun v B => v = .int .i64 (lenW l w : Nat) ∧ B = osl 99 4 (.slice a l.length c) (l.flatMap dsV) :: R) :=
  spec_sla (h := tk_here) dsV l (fun _ => rfl) (by decide) rfl (fun hs => chLen_sla W0 _ a c l w hl hn hs)
theorem rcWrites_spec (W0 : World) (R : List HP) (d : Dsc) (hd : d.ok) : Spec Tryz.prog W0 191 [.agg (dsV d).toArray] R (fun v B => v = .bool (wrB d) ∧ B = R) := by
  have h1 := hd.flags
  refine spec_body Tryz.func191 Tryz.ntmps191 rfl rfl ?_
  refine x_seq (x_region (s_do rfl (d_boxA rfl) ?_))
  rintro _ _ ⟨b1, rfl, rfl⟩
  refine s_val rfl (v_assign rfl) (x_nil (n_then (x_seq (x_region ?_))))
  refine s_val rfl (v_fieldAddr rfl Tryz.underlying99 rfl Tryz.sizeOf47 rfl (by first | exact Nat.zero_add _ | rfl)) ?_
  refine s_val rfl (v_load Tryz.isAgg47 rfl (cell_own rfl)) ?_
  refine s_val rfl (v_quo rfl rfl (by decide) ((congrArg (IntKind.wrap .u32) (tdivN d.flags 2)).trans (w32u (by omega)))) ?_
  refine s_val rfl (v_rem rfl rfl (by decide) (tmodN (d.flags / 2) 2)) ?_
  refine s_val rfl (v_eql rfl rfl) (s_val rfl (v_assign rfl) (x_nil (n_then (x_ret (x_done (.inl rfl) (.cons (r_tmp rfl) .nil) ?_)))))
  refine ⟨_, ⟨?_, rfl⟩, inferInstance⟩
  refine congrArg Value.bool ?_
  rw [Bool.eq_iff_iff, beq_iff_eq, wrB, decide_eq_true_iff]; omega
theorem wkSt_ok {fr : List Frm} (hF : Frs fr) (pg : List Pl) (r : Rg3) (head : Int) : ∀ n, ∀ d ∈ (wkSt fr pg r head n).2.2, d.ok
  | 0, d, hd => by simp [wkSt] at hd
  | n + 1, d, hd => by
    rw [wkSt] at hd
    rcases List.mem_append.1 hd with h | h
    · exact wkSt_ok hF pg r head n d h
    · obtain rfl := List.mem_singleton.1 h
      exact lk_ok hF _ _ _ _ _
theorem wkGo_or {fr : List Frm} {pg : List Pl} {r : Rg3} {head : Int} : ∀ f n, (∃ c, wkGo fr pg r head f n = ([], c) ∧ c ≠ 0) ∨ ∃ m, m < n + f ∧ wkGo fr pg r head f n = ((wkSt fr pg r head (m + 1)).2.2, 0) ∧ (lkN fr pg r head m).2 = 0 ∧ goB (lkN fr pg r head m).1 = false ∧ ∀ k, n ≤ k → k < m → (lkN fr pg r head k).2 = 0 ∧ goB (lkN fr pg r head k).1 = true
  | 0, n => .inl ⟨2, rfl, by decide⟩
  | f + 1, n => by
    rw [wkGo]
    by_cases h1 : (lkN fr pg r head n).2 ≠ 0
    · rw [if_pos h1]; exact .inl ⟨_, rfl, h1⟩
    rw [if_neg h1]
    by_cases h2 : goB (lkN fr pg r head n).1 = true
    · rw [if_pos h2]
      rcases wkGo_or f (n + 1) with h | ⟨m, hm, he, h3, h4, h5⟩
      · exact .inl h
      · refine .inr ⟨m, by omega, he, h3, h4, fun k hk hkm => ?_⟩
        rcases Nat.lt_or_ge n k with q | q
        · exact h5 k (by omega) hkm
        · rw [show k = n by omega]; exact ⟨Decidable.not_not.1 h1, h2⟩
    · rw [if_neg h2]
      exact .inr ⟨n, by omega, rfl, Decidable.not_not.1 h1, by simpa using h2, fun k hk hkm => by omega⟩
theorem wkAll_or (fr : List Frm) (pg : List Pl) (r : Rg3) (head : Int) : (∃ c, wkAll fr pg r head = ([], c) ∧ c ≠ 0) ∨ ∃ m, m < 9 ∧ wkAll fr pg r head = ((wkSt fr pg r head (m + 1)).2.2, 0) ∧ alive fr pg r head m ∧ (lkN fr pg r head m).2 = 0 ∧ goB (lkN fr pg r head m).1 = false := by
  unfold wkAll; split
  · rcases wkGo_or (fr := fr) (pg := pg) (r := r) (head := head) 9 0 with h | ⟨m, hm, he, h3, h4, h5⟩
    · exact .inl h
    · exact .inr ⟨m, by omega, he, fun k hk => h5 k (Nat.zero_le _) hk, h3, h4⟩
  · exact .inl ⟨5, rfl, by decide⟩
theorem wkAll_ok {fr : List Frm} (hF : Frs fr) (pg : List Pl) (r : Rg3) (head : Int) : (∀ d ∈ (wkAll fr pg r head).1, d.ok) ∧ (wkAll fr pg r head).1.length ≤ 9 := by
  rcases wkAll_or fr pg r head with ⟨c, h, _⟩ | ⟨m, hm, h, _⟩
  · rw [h]; exact ⟨fun d hd => by simp at hd, by simp⟩
  · rw [h]; exact ⟨wkSt_ok hF _ _ _ _, by rw [wkSt_len]; omega⟩
end Go.Proofs.YtlnmofhehcilhaaGreat
namespace Go.Proofs.YtlnmofhehcilhaaGreat
open Go.RowKit
set_option linter.unusedSimpArgs false
set_option linter.unusedVariables false
set_option maxRecDepth 20000
abbrev prH (pv ps pm qv qs qm d : Nat) (fr : List Frm) (pg : List Pl) (R : List HP) : List HP :=
  pt pv (viO ps pm d) :: stoH ps fr :: pt pm (gmO pg) :: pt qv (rvO qs qm d) :: rstoH qs fr :: pt qm (rgO pg) :: R
theorem vsvF_ok {fr : List Frm} {pg : List Pl} {pa : Nat} {w : Int} {x : Nat} (h : Frs fr) : Frs (vsvF fr pg pa w x) ∧ (vsvF fr pg pa w x).length = fr.length := by
  unfold vsvF; split
  · exact ⟨svF_ok h, svF_len⟩
  · exact ⟨h, rfl⟩
theorem vsvD_lt {fr : List Frm} {pg : List Pl} {pa d : Nat} {w : Int} (h : d < 4096) : vsvD fr pg pa w d < 4096 := by
  unfold vsvD; split
  · rename_i hs; exact Nat.or_lt_two_pow (n := 12) h (page_lt (by have := (fnd_ok hs).1; omega))
  · exact h
end Go.Proofs.YtlnmofhehcilhaaGreat
namespace Go.Proofs.YtlnmofhehcilhaaGreat
open Go.RowKit
set_option linter.unusedSimpArgs false
set_option linter.unusedVariables false
theorem byV_flat : ∀ bs : List Nat, bs.flatMap (fun x => [bV x]) = byV bs
  | [] => rfl
  | b :: l => by rw [List.flatMap_cons, byV_flat l]; rfl
theorem byV_map : ∀ bs : List Nat, (bs.map fun b : Nat => (b : Int)).map (Value.int .u8) = byV bs
  | [] => rfl
  | b :: l => by rw [List.map_cons, List.map_cons, byV_map l]; rfl
def strB (l : List Nat) : ByteArray := (l.map fun b : Nat => (b : Int)).foldl (fun r n => r.push (UInt8.ofNat n.toNat)) ByteArray.empty
theorem push_toList (s : ByteArray) (b : UInt8) : (s.push b).data.toList = s.data.toList ++ [b] := by simp [ByteArray.push]
theorem strB_list (l : List Nat) : (strB l).data.toList = l.map UInt8.ofNat := by
  suffices h : ∀ (l : List Nat) (s : ByteArray), ((l.map fun b : Nat => (b : Int)).foldl (fun r n => r.push (UInt8.ofNat n.toNat)) s).data.toList = s.data.toList ++ l.map UInt8.ofNat by
    simpa [strB] using h l ByteArray.empty
  intro l
  induction l with
  | nil => intro s; simp
  | cons b l ih => intro s; rw [List.map_cons, List.foldl_cons, ih, push_toList]; simp
section
variable {P : Program} {S : World → Prop} {W0 : World} {N : FSz} {e : Env} {A R : List HP} {t t' : TypeId} {x : Operand} {bs : List Nat} {a : Option Addr} {c n : Nat}
theorem v_bstrS {E : TypeId} (hs : P.underlying t = some (.slice E)) (he : P.underlying E = some (.int .u8)) (hd : P.underlying t' = some .string) (hx : ev e x = some (.slice a bs.length c)) (h : SlA S a 1 (fun x => [bV x]) bs) :
    Val P S N e (.convert t t' x) (.string (strB bs)) := fun act w _ _ _ _ _ hF hO => by
  have hr : (Conv.bytesToString (.slice a bs.length c)).run P w = .ok (.string (strB bs)) w := by
    cases a with
    | none =>
      have : bs = [] := by
        cases bs with
        | nil => rfl
        | cons b l => obtain ⟨_, _, h0, _⟩ := h 0 b rfl; cases h0
      subst this
      simp [Conv.bytesToString, strB]
    | some ad =>
      have hl : (loadCells ad bs.length).run P w = .ok ((bs.map fun b : Nat => (b : Int)).map (Value.int .u8)).toArray w := by
        by_cases hb : bs = []
        · subst hb; simp [loadCells, loadCellsFrom]
        · obtain ⟨b, off, hae, hc⟩ := h.all hb (fun _ => rfl)
          cases hae
          rw [byV_flat] at hc
          have := run_loadCells (P := P) (w := w) (vs := byV bs) (fun i v hi => hc i v hi w hO) bs.length 0 #[] (by simp [byV_len])
          simp only [loadCells, this, List.drop_zero, Array.empty_append, byV_map]
      exact run_bytesToString w ad bs.length c _ hl
  simp only [execOp, hF.eval hx, Sem.run_bind, run_convert_bytes_string w t t' E a bs.length c hs he hd, hr, Result.andThen_ok, Sem.run_pure]
theorem v_bstrSN {E : TypeId} (hs : P.underlying t = some (.slice E)) (he : P.underlying E = some (.int .u8)) (hd : P.underlying t' = some .string) (hx : ev e x = some (.slice a n c)) (hn : bs.length = n) (h : SlA S a 1 (fun x => [bV x]) bs) :
    Val P S N e (.convert t t' x) (.string (strB bs)) := by subst hn; exact v_bstrS hs he hd hx h
end
end Go.Proofs.YtlnmofhehcilhaaGreat
namespace Go.Proofs.YtlnmofhehcilhaaGreat
open Go.ChangeShapes Go.WideShapes Go.ChangeAt Go.RowKit
set_option linter.unusedSimpArgs false
set_option linter.unusedVariables false
def InT (P : Program) (w : World) : Nat → TypeId → List Value → Prop
  | 0, _, _ => False
  | fuel + 1, t, cs =>
    match P.underlying t with
    | some .bool => ∃ b, cs = [.bool b]
    | some (.int k) => ∃ n, cs = [.int k n] ∧ (Lit.int k n).wf = true
    | some .string => ∃ s, cs = [.string s] ∧ s.size ≤ maxLen
    | some (.slice e) => cs = [.slice none 0 0] ∨ ∃ a len cap, cs = [.slice (some a) len cap] ∧ len ≤ cap ∧ cap ≤ maxLen ∧
        ∀ i, i < len → ∃ cs', w.cells? 0 (a.add (i * P.cellsOf e)) (P.cellsOf e) = some cs' ∧ InT P w fuel e cs'
    | some (.struct fs) => cs.length = P.cellsOf t ∧ ∀ f : Field, f ∈ fs.toList → InT P w fuel f.type ((cs.drop f.offset).take (P.cellsOf f.type))
    | some (.array n e) => cs.length = P.cellsOf t ∧ ∀ i, i < n → InT P w fuel e ((cs.drop (i * P.cellsOf e)).take (P.cellsOf e))
    | _ => True
section
variable {H : Type} {enc : TypeId × Value → H} {P : Program} {w W : World}
theorem inT_of_trod {sp : Nat → Bool} : ∀ (fuel : Nat) (t : TypeId) (cs : List Value) (x : DataW H × List MemPlace), DataW.trod enc P w 0 sp true fuel t cs = some x → InT P w fuel t cs
  | 0, t, cs, x, h => by simp [DataW.trod] at h
  | fuel + 1, t, cs, x, h => by
    unfold InT
    cases hu : P.underlying t with
    | none => trivial
    | some d =>
      cases d with
      | bool =>
        simp only []
        unfold DataW.trod at h; simp only [hu] at h
        split at h <;> simp_all
      | int k =>
        simp only []
        obtain ⟨n, hc, _, hw⟩ := DataW.trod_int hu h
        exact ⟨n, hc, hw⟩
      | string =>
        simp only []
        unfold DataW.trod at h; simp only [hu] at h
        split at h <;> simp_all
      | slice e =>
        simp only []
        rcases DataW.trod_slice hu h with ⟨hc, _⟩ | ⟨a, len, cap, elems, rest, n, hf, hc, _, _, hl, hm, hle, hel, _⟩
        · exact .inl hc
        · refine .inr ⟨a, len, cap, hc, hl, hm, fun i hi => ?_⟩
          obtain rfl : fuel = n := by omega
          have h1 := hel i hi
          have h2 : elems[i]? = some elems[i] := by simp
          rw [h2] at h1
          cases hcs : w.cells? 0 (a.add (i * P.cellsOf e)) (P.cellsOf e) with
          | none => rw [hcs] at h1; cases h1
          | some cs' =>
            rw [hcs] at h1
            exact ⟨cs', rfl, inT_of_trod fuel e cs' _ h1⟩
      | struct fs =>
        simp only []
        obtain ⟨xs, n, hf, _, hlen, hxs, hel⟩ := DataW.trod_struct hu h
        obtain rfl : fuel = n := by omega
        refine ⟨hlen, fun f hm => ?_⟩
        obtain ⟨i, hi, hfi⟩ := List.getElem_of_mem hm
        have h1 := hel i f (by simp at hi; simp [← hfi, hi])
        have h2 : xs[i]? = some (xs[i]'(by simp at hi; omega)) := by simp at hi; simp [hxs, hi]
        rw [h2] at h1
        exact inT_of_trod fuel _ _ _ h1
      | array n e =>
        simp only []
        obtain ⟨xs, m, hf, _, hlen, hxs, hel⟩ := DataW.trod_array hu h
        obtain rfl : fuel = m := by omega
        refine ⟨hlen, fun i hi => ?_⟩
        have h1 := hel i hi
        have h2 : xs[i]? = some (xs[i]'(by omega)) := by simp [hxs, hi]
        rw [h2] at h1
        exact inT_of_trod fuel _ _ _ h1
      | _ => trivial
def Ty (P : Program) (W : World) (t : TypeId) (v : Value) : Prop := (∃ (r : Reach) (b : Nat), Value.okWide P W r b t v) ∧ ∃ fuel, InT P W fuel t v.cells.toList
theorem ty_mk {t : TypeId} {v : Value} {d : DataW H} {p : List MemPlace} {sp : Nat → Bool} {r : Reach} {b : Nat} (h : Value.okWide P W r b t v) (k : DataW.Trod enc P W 0 sp true t v d p) : Ty P W t v := by
  obtain ⟨fuel, hf⟩ := k
  exact ⟨⟨r, b, h⟩, fuel, inT_of_trod fuel t _ _ hf⟩
variable {t : TypeId} {v : Value}
theorem inT_int {k : IntKind} {fuel : Nat} {cs : List Value} (hu : P.underlying t = some (.int k)) (h : InT P W fuel t cs) : ∃ n, cs = [.int k n] ∧ (Lit.int k n).wf = true := by
  cases fuel with
  | zero => exact h.elim
  | succ f => unfold InT at h; simpa only [hu] using h
theorem inT_str {fuel : Nat} {cs : List Value} (hu : P.underlying t = some .string) (h : InT P W fuel t cs) : ∃ s, cs = [.string s] ∧ s.size ≤ maxLen := by
  cases fuel with
  | zero => exact h.elim
  | succ f => unfold InT at h; simpa only [hu] using h
theorem inT_struct {fs : Array Field} {fuel : Nat} {cs : List Value} (hu : P.underlying t = some (.struct fs)) (h : InT P W fuel t cs) : cs.length = P.cellsOf t ∧ ∃ f', ∀ f : Field, f ∈ fs.toList → InT P W f' f.type ((cs.drop f.offset).take (P.cellsOf f.type)) := by
  cases fuel with
  | zero => exact h.elim
  | succ f => unfold InT at h; simp only [hu] at h; exact ⟨h.1, f, h.2⟩
theorem inT_slice {e : TypeId} {fuel : Nat} {cs : List Value} (hu : P.underlying t = some (.slice e)) (h : InT P W fuel t cs) : cs = [.slice none 0 0] ∨ ∃ a len cap, cs = [.slice (some a) len cap] ∧ len ≤ cap ∧ cap ≤ maxLen ∧
        ∃ f', ∀ i, i < len → ∃ cs', W.cells? 0 (a.add (i * P.cellsOf e)) (P.cellsOf e) = some cs' ∧ InT P W f' e cs' := by
  cases fuel with
  | zero => exact h.elim
  | succ f =>
    unfold InT at h; simp only [hu] at h
    rcases h with h | ⟨a, l, c, h1, h2, h3, h4⟩
    · exact .inl h
    · exact .inr ⟨a, l, c, h1, h2, h3, f, h4⟩
theorem ty_int {k : IntKind} (hu : P.underlying t = some (.int k)) (h : Ty P W t v) : ∃ n, v = .int k n ∧ (Lit.int k n).wf = true := by
  obtain ⟨⟨r, b, h1⟩, fuel, h2⟩ := h
  obtain ⟨n, rfl⟩ := okWide_int hu h1
  obtain ⟨m, hm, hw⟩ := inT_int hu h2
  simp only [Value.cells, List.cons.injEq, Value.int.injEq, true_and, and_true] at hm
  subst hm; exact ⟨n, rfl, hw⟩
theorem ty_struct {fs : Array Field} (hu : P.underlying t = some (.struct fs)) (h : Ty P W t v) : ∃ l : List Value, v = .agg l.toArray ∧ ∃ fuel, InT P W fuel t l := by
  obtain ⟨⟨r, b, h1⟩, fuel, h2⟩ := h
  obtain ⟨cs, rfl, _⟩ := okWide_struct hu h1
  exact ⟨cs.toList, by simp, fuel, h2⟩
theorem choose_list {α : Type} {Q : Nat → α → Prop} : ∀ (n : Nat), (∀ i, i < n → ∃ x, Q i x) → ∃ l : List α, l.length = n ∧ ∀ i x, l[i]? = some x → Q i x
  | 0, _ => ⟨[], rfl, fun i x h => by simp at h⟩
  | n + 1, h => by
    obtain ⟨l, hl, hq⟩ := choose_list n (fun i hi => h i (by omega))
    obtain ⟨x, hx⟩ := h n (by omega)
    refine ⟨l ++ [x], by simp [hl], fun i y hy => ?_⟩
    by_cases hi : i < n
    · rw [List.getElem?_append_left (by omega)] at hy; exact hq i y hy
    · by_cases he : i = n
      · subst he; subst hl; simp at hy; subst hy; exact hx
      · rw [List.getElem?_eq_none (by simp; omega)] at hy; cases hy
def Rows0 (S : World → Prop) (a : Option Addr) (sz : Nat) (rows : List (List Value)) : Prop :=
  ∀ i r, rows[i]? = some r → r.length = sz ∧ ∃ b off, a = some ⟨b, off, none⟩ ∧ Cells S b (off + i * sz) r
theorem mapM_spec {α β : Type} {f : α → Option β} : ∀ {l : List α} {r : List β}, l.mapM f = some r → r.length = l.length ∧ ∀ (i : Nat) (x : α), l[i]? = some x → f x = r[i]?
  | [], r, h => by
    simp only [List.mapM_nil] at h
    obtain rfl : [] = r := Option.some.inj h
    exact ⟨rfl, fun i x hx => by simp at hx⟩
  | a :: l, r, h => by
    rw [List.mapM_cons] at h
    cases ha : f a with
    | none => simp [ha] at h
    | some y =>
      cases hl : l.mapM f with
      | none => simp [ha, hl] at h
      | some ys =>
        simp only [ha, hl, Option.bind_eq_bind, Option.bind_some, Option.pure_def, Option.some.injEq] at h
        subst h
        obtain ⟨h1, h2⟩ := mapM_spec hl
        refine ⟨by simp [h1], fun i x hx => ?_⟩
        cases i with
        | zero => simp only [List.getElem?_cons_zero, Option.some.injEq] at hx ⊢; subst hx; exact ha
        | succ i => simpa using h2 i x (by simpa using hx)
theorem cells?_spec {a : Addr} {n : Nat} {cs : List Value} (hn : 0 < n) (h : W.cells? 0 a n = some cs) : a.spot = none ∧ cs.length = n ∧ ∀ i v, cs[i]? = some v → W.cell? ⟨a.block, a.off + i, none⟩ = some v := by
  simp only [World.cells?, Nat.zero_le, if_true] at h
  obtain ⟨h1, h2⟩ := mapM_spec h
  simp only [List.length_range] at h1
  have hs : a.spot = none := by
    have h0 := h2 0 0 (by simp [hn])
    have : cs[0]? = some (cs[0]'(by omega)) := by simp [h1, hn]
    rw [this] at h0
    simp only [Addr.add, if_true] at h0
    unfold World.cell? at h0
    split at h0
    · split at h0
      · cases h0
      · rename_i hk; simpa using hk
    · cases h0
  refine ⟨hs, h1, fun i v hv => ?_⟩
  have hi : i < n := by
    rcases Nat.lt_or_ge i n with k | k
    · exact k
    · rw [List.getElem?_eq_none (by omega)] at hv; cases hv
  have h3 := h2 i i (by simp [hi])
  rw [hv] at h3
  obtain ⟨b, o, s⟩ := a
  simp only at hs
  subst hs
  rwa [add_none] at h3
theorem ty_slice {e : TypeId} {A : List HP} (hu : P.underlying t = some (.slice e)) (hc : 0 < P.cellsOf e) (h : Ty P W t v) : ∃ a n c rows, v = .slice a n c ∧ n ≤ c ∧ c ≤ maxLen ∧ rows.length = n ∧ Rows0 (OwnP W A) a (P.cellsOf e) rows ∧
    ∃ fuel, ∀ r ∈ rows, InT P W fuel e r := by
  obtain ⟨⟨r, b, h1⟩, fuel, h2⟩ := h
  obtain ⟨a, n, c, rfl⟩ := okWide_slice hu h1
  rcases inT_slice hu h2 with h3 | ⟨a', n', c', h3, hl, hm, f', hr⟩
  · simp only [Value.cells, List.cons.injEq, Value.slice.injEq, and_true] at h3
    obtain ⟨rfl, rfl, rfl⟩ := h3
    exact ⟨none, 0, 0, [], rfl, by omega, by omega, rfl, fun i r h => by simp at h, 0, fun r h => nomatch h⟩
  · simp only [Value.cells, List.cons.injEq, Value.slice.injEq, and_true] at h3
    obtain ⟨rfl, rfl, rfl⟩ := h3
    obtain ⟨rows, hlen, hq⟩ := choose_list n hr
    refine ⟨_, _, _, rows, rfl, hl, hm, hlen, fun i r hi => ?_, f', fun r hr => ?_⟩
    · obtain ⟨h4, _⟩ := hq i r hi
      obtain ⟨hs, hlr, hcell⟩ := cells?_spec hc h4
      have hi' : i < rows.length := by
        rcases Nat.lt_or_ge i rows.length with k | k
        · exact k
        · rw [List.getElem?_eq_none k] at hi; cases hi
      obtain ⟨h5, _⟩ := hq 0 rows[0] (by simp)
      obtain ⟨hs0, _⟩ := cells?_spec hc h5
      obtain ⟨b, o, s⟩ := a'
      simp only [Nat.zero_mul, Addr.add, if_true] at hs0
      subst hs0
      refine ⟨hlr, b, o, rfl, fun j v hv => ?_⟩
      have := hcell j v hv
      rw [add_none] at this
      exact cell_base this
    · obtain ⟨i, hi, rfl⟩ := List.getElem_of_mem hr
      exact (hq i _ (by simp)).2
def SlB {α : Type} (W : World) (a : Option Addr) (sz : Nat) (f : α → List Value) (xs : List α) : Prop :=
  ∀ i x, xs[i]? = some x → ∃ b off, a = some ⟨b, off, none⟩ ∧ ∀ A, Cells (OwnP W A) b (off + i * sz) (f x)
theorem rows_map {α : Type} {f : α → List Value} {Q : α → Prop} : ∀ {rows : List (List Value)}, (∀ r ∈ rows, ∃ x, r = f x ∧ Q x) → ∃ xs : List α, rows = xs.map f ∧ ∀ x ∈ xs, Q x
  | [], _ => ⟨[], rfl, fun _ h => by simp at h⟩
  | r :: rows, h => by
    obtain ⟨x, rfl, hq⟩ := h r (by simp)
    obtain ⟨xs, rfl, hqs⟩ := rows_map (rows := rows) fun r hr => h r (by simp [hr])
    exact ⟨x :: xs, rfl, fun y hy => by
      rcases List.mem_cons.1 hy with rfl | hy
      · exact hq
      · exact hqs y hy⟩
theorem ty_sliceF {α : Type} {f : α → List Value} {Q : α → Prop} {e : TypeId} (sz : Nat) (hu : P.underlying t = some (.slice e)) (hsz : P.cellsOf e = sz) (hc : 0 < sz) (hdec : ∀ fuel r, InT P W fuel e r → ∃ x, r = f x ∧ Q x) (h : Ty P W t v) :
    ∃ a c xs, v = .slice a (List.length (α := α) xs) c ∧ xs.length ≤ c ∧ c ≤ maxLen ∧ SlB W a sz f xs ∧ ∀ x ∈ xs, Q x := by
  subst hsz
  obtain ⟨⟨r, b, h1⟩, fuel, h2⟩ := h
  obtain ⟨a, n, c, rfl⟩ := okWide_slice hu h1
  have h0 : Ty P W t (.slice a n c) := ⟨⟨r, b, h1⟩, fuel, h2⟩
  obtain ⟨a', n', c', rows, he, hl, hm, hn, hr, fu, hi⟩ := ty_slice (A := []) hu hc h0
  cases he
  obtain ⟨xs, rfl, hq⟩ := rows_map (f := f) (Q := Q) fun r hr => hdec _ r (hi r hr)
  rw [List.length_map] at hn
  subst hn
  refine ⟨a, c, xs, rfl, hl, hm, fun i x hx => ?_, hq⟩
  obtain ⟨h3, b, off, rfl, hcs⟩ := hr i (f x) (by simp [hx])
  refine ⟨b, off, rfl, fun A j u hu => ?_⟩
  have h4 := hcs j u hu W (Own.refl W)
  exact cell_base h4
theorem list_cons {α : Type} {l : List α} {n : Nat} (h : n + 1 = l.length) : ∃ a l', l = a :: l' ∧ n = l'.length := by
  cases l with
  | nil => cases h
  | cons a l => exact ⟨a, l, rfl, by simpa using h⟩
theorem list_nil {α : Type} {l : List α} (h : 0 = l.length) : l = [] := List.length_eq_zero_iff.1 h.symm
theorem below_trodAll (hl : laidOutB P = true) {W' : World} (hb : Below W.heap.size W W') : ∀ (ts : List TypeId) (vs : List Value) (ds : List (DataW H)) (p : List MemPlace), (ts.all fun t => P.readableRec t && decide (t < P.types.size)) = true →
    DataW.TrodAll enc P W 0 (fun _ => true) true ts vs ds p → DataW.TrodAll enc P W' 0 (fun b => decide (b < W.heap.size)) true ts vs ds p
  | [], [], [], p, _, h => h
  | [], _ :: _, _, p, _, h => by cases h
  | [], [], _ :: _, p, _, h => by cases h
  | _ :: _, [], _, p, _, h => by cases h
  | _ :: _, _ :: _, [], p, _, h => by cases h
  | t :: ts, v :: vs, d :: ds, p, hr, h => by
    obtain ⟨q, q', h1, h2, rfl⟩ := h
    simp only [List.all_cons, Bool.and_eq_true, decide_eq_true_eq] at hr
    have lt : ∀ x ∈ q, x.block < W.heap.size := by obtain ⟨m, hm⟩ := h1; exact DataW.trod_lt m _ _ _ hm
    exact ⟨q, q', Below.trod hl hr.1.1 hr.1.2 h1 hb lt, below_trodAll hl hb ts vs ds q' hr.2 h2, rfl⟩
theorem ty_all {sp : Nat → Bool} {r : Reach} {b : Nat} : ∀ (ts : List TypeId) (vs : List Value) (ds : List (DataW H)) (p : List MemPlace), (∀ (j : Nat) t v, ts[j]? = some t → vs[j]? = some v → Value.okWide P W r b t v) →
    DataW.TrodAll enc P W 0 sp true ts vs ds p → ts.length = vs.length ∧ ts.length = ds.length ∧ ∀ (j : Nat) t v, ts[j]? = some t → vs[j]? = some v → Ty P W t v
  | [], [], [], p, _, h => ⟨rfl, rfl, fun j t v h => by simp at h⟩
  | [], _ :: _, _, p, _, h => by cases h
  | [], [], _ :: _, p, _, h => by cases h
  | _ :: _, [], _, p, _, h => by cases h
  | _ :: _, _ :: _, [], p, _, h => by cases h
  | t :: ts, v :: vs, d :: ds, p, hok, h => by
    obtain ⟨q, q', h1, h2, rfl⟩ := h
    obtain ⟨k1, k2, k3⟩ := ty_all ts vs ds q' (fun j t v ht hv => hok (j + 1) t v (by simpa using ht) (by simpa using hv)) h2
    refine ⟨by simp [k1], by simp [k2], fun j t' v' ht hv => ?_⟩
    cases j with
    | zero =>
      simp only [List.getElem?_cons_zero, Option.some.injEq] at ht hv
      subst ht; subst hv
      exact ty_mk (hok 0 t v rfl rfl) h1
    | succ j => exact k3 j t' v' (by simpa using ht) (by simpa using hv)
end
end Go.Proofs.YtlnmofhehcilhaaGreat
namespace Go.Proofs.YtlnmofhehcilhaaGreat
open Go.ChangeShapes Go.WideShapes Go.ChangeAt Go.RowKit
set_option linter.unusedSimpArgs false
set_option linter.unusedVariables false
variable {P : Program} {w W : World} {t : TypeId} {v : Value}
theorem inT_sliceF {α : Type} {f : α → List Value} {Q : α → Prop} {e : TypeId} {fuel : Nat} {cs : List Value} (sz : Nat) (hu : P.underlying t = some (.slice e)) (hsz : P.cellsOf e = sz) (hc : 0 < sz) (hdec : ∀ fuel r, InT P W fuel e r → ∃ x, r = f x ∧ Q x) (h : InT P W fuel t cs) :
    ∃ a c xs, cs = [.slice a (List.length (α := α) xs) c] ∧ xs.length ≤ c ∧ c ≤ maxLen ∧ SlB W a sz f xs ∧ ∀ x ∈ xs, Q x := by
  subst hsz
  rcases inT_slice hu h with rfl | ⟨a', n', c', rfl, hl, hm, f', hr⟩
  · exact ⟨none, 0, [], rfl, by simp, by omega, fun i x hx => by simp at hx, fun x hx => by simp at hx⟩
  · obtain ⟨rows, hlen, hq⟩ := choose_list n' hr
    obtain ⟨xs, rfl, hQ⟩ := rows_map (rows := rows) (f := f) (Q := Q) fun r hr => by
      obtain ⟨i, hi, rfl⟩ := List.getElem_of_mem hr
      exact hdec _ _ (hq i rows[i] (by simp)).2
    rw [List.length_map] at hlen
    subst hlen
    refine ⟨some a', c', xs, rfl, hl, hm, fun i x hx => ?_, hQ⟩
    obtain ⟨h4, _⟩ := hq i (f x) (by simp [hx])
    obtain ⟨hs, hlr, hcell⟩ := cells?_spec hc h4
    have hpos : 0 < xs.length := by
      rcases Nat.eq_zero_or_pos xs.length with q | q
      · have := List.eq_nil_of_length_eq_zero q; subst this; simp at hx
      · exact q
    obtain ⟨h5, _⟩ := hq 0 (f xs[0]) (by simp [hpos])
    obtain ⟨hs0, _⟩ := cells?_spec hc h5
    obtain ⟨b, o, s⟩ := a'
    simp only [Nat.zero_mul, Addr.add, if_true] at hs0
    subst hs0
    refine ⟨b, o, rfl, fun A j v hv => ?_⟩
    have := hcell j v hv
    rw [add_none] at this
    exact cell_base this
theorem sla_base {α : Type} {W : World} {A : List HP} {a : Option Addr} {sz : Nat} {f : α → List Value} {xs : List α} (h : SlB W a sz f xs) : SlA (OwnP W A) a sz f xs := fun i x hi => by
  obtain ⟨b, off, rfl, hc⟩ := h i x hi
  exact ⟨b, off, rfl, hc A⟩
end Go.Proofs.YtlnmofhehcilhaaGreat
namespace Go.Proofs.YtlnmofhehcilhaaGreat
open Go.RowKit
set_option linter.unusedSimpArgs false
set_option linter.unusedVariables false
set_option maxRecDepth 20000
theorem viWriteN_spec (W0 : World) (R : List HP) (pv ps pm d c n : Nat) (a : Option Addr) (fr : List Frm) (pg : List Pl) (h : Pgs pg) (hF : Frs fr) (hd : d < 4096) (pa : Nat) (hpa : pa < 4294967296) (bs : List Nat) (hn : bs.length = n) (hb : By bs) (hs : SlA (OwnP W0 R) a 1 (fun x => [bV x]) bs) (hlen : n < 9223372036854775808) :
    Spec Tryz.prog W0 88 [.pointer (some ⟨pv, 0, none⟩), .int .u32 pa, .slice a n c] (pt pv (viO ps pm d) :: stoH ps fr :: pt pm (gmO pg) :: R)
      (fun v B => v = .bool (ownB fr.length pg pa n) ∧ B = pt pv (viO ps pm (wrE fr pg pa d n)) :: stoH ps (wrF fr pg pa bs) :: pt pm (gmO pg) :: R) := by
  subst hn; exact viWrite_spec W0 R pv ps pm d c a fr pg h hF hd pa hpa bs hb hs hlen
theorem rvWriteN_spec (W0 : World) (R : List HP) (qv qs qm d c n : Nat) (a : Option Addr) (fr : List Frm) (pg : List Pl) (h : Pgs pg) (hF : Frs fr) (pa : Nat) (hpa : pa < 4294967296) (bs : List Nat) (hn : bs.length = n) (hb : By bs) (hs : SlA (OwnP W0 R) a 1 (fun x => [bV x]) bs) (hlen : n < 9223372036854775808) :
    Spec Tryz.prog W0 89 [.pointer (some ⟨qv, 0, none⟩), .int .u32 pa, .slice a n c] (pt qv (rvO qs qm d) :: rstoH qs fr :: pt qm (rgO pg) :: R)
      (fun v B => v = .bool (ownB fr.length pg pa n) ∧ B = pt qv (rvO qs qm (wrE fr pg pa d n)) :: rstoH qs (wrF fr pg pa bs) :: pt qm (rgO pg) :: R) := by
  subst hn; exact rvWrite_spec W0 R qv qs qm d c a fr pg h hF pa hpa bs hb hs hlen
theorem pgz : Pgs (List.replicate 12 (0, 0)) := ⟨rfl, fun n hn hne => absurd (by
  unfold plAt; rw [List.getD_eq_getElem?_getD, List.getElem?_replicate]; split <;> rfl) hne⟩
end Go.Proofs.YtlnmofhehcilhaaGreat
namespace Go.Proofs.YtlnmofhehcilhaaGreat
open Go.RowKit
set_option linter.unusedSimpArgs false
set_option linter.unusedVariables false
set_option maxRecDepth 20000
def getF (w : Nat) : Int := if w % 2 = 0 then 4 else if w = w % 32 + 256 * (w / 256 % 32) then 0 else 5
def gP (w : Nat) : Nat := if getF w = 0 then w / 256 % 32 else 0
end Go.Proofs.YtlnmofhehcilhaaGreat
namespace Go.Proofs.YtlnmofhehcilhaaGreat
open Go.RowKit
set_option linter.unusedSimpArgs false
set_option linter.unusedVariables false
set_option maxRecDepth 20000
abbrev vwW (pv ps pm d : Nat) (fr : List Frm) (pg : List Pl) (R : List HP) : List HP := pt pv (viO ps pm d) :: stoH ps fr :: pt pm (gmO pg) :: R
abbrev rvwW (qv qs qm d : Nat) (fr : List Frm) (pg : List Pl) (R : List HP) : List HP := pt qv (rvO qs qm d) :: rstoH qs fr :: pt qm (rgO pg) :: R
theorem getN_all {l : List Nat} (h : l.length = 4) : getN l 0 4 = leN l ∧ getE l 0 4 = 0 := by
  have hi : inB l.length 0 4 = true := inB_iff.2 (by omega)
  constructor
  · rw [getN, if_pos hi]
    show leN ((l.drop 0).take 4) = leN l
    rw [List.drop_zero, List.take_of_length_le (by omega)]
  · rw [getE, if_pos hi]
theorem rvWord_spec (W0 : World) (R : List HP) (qv qs qm d : Nat) (fr : List Frm) (pg : List Pl) (h : Pgs pg) (hF : Frs fr) (pa : Nat) (hpa : pa < 4294967296) :
    Spec Tryz.prog W0 252 [.pointer (some ⟨qv, 0, none⟩), .int .u32 pa] (rvwW qv qs qm d fr pg R)
      (fun v B => v = .tuple #[.int .u32 ((if ownB fr.length pg pa 4 then leN (rdL fr pg pa 4) else 0 : Nat)), .bool (ownB fr.length pg pa 4)] ∧ B = rvwW qv qs qm d fr pg R) := by
  refine spec_body Tryz.func252 Tryz.ntmps252 rfl rfl ?_
  refine x_seq (x_region (s_val rfl (v_assign rfl) (s_val rfl (v_assign rfl) (x_nil (n_then (x_seq (x_region (s_val rfl (v_move rfl) (s_val rfl (v_move rfl) (s_do rfl (d_call3 Tryz.call192 rfl (rvRead_spec W0 _ qv qs qm d fr pg h hF pa hpa 4)) ?_))))))))))
  rintro _ B_ ⟨a, c, rfl, hB_⟩
  obtain rfl := hB_.symm
  refine s_val rfl (v_move rfl) (s_val rfl (v_extract rfl rfl) (s_val rfl (v_extract rfl rfl) (s_val rfl (v_assign rfl) (s_val rfl (v_assign rfl) (x_nil (n_then (x_seq (x_seq (x_region (s_val rfl (v_move rfl) (s_val rfl (v_not rfl) (x_nil (n_then ?_)))))))))))))
  refine x_if rfl ?_ ?_
  · intro c2
    refine x_seq (x_region (s_val rfl (v_assign rfl) (s_val rfl (v_assign rfl) (x_nil (n_then (x_ret (r_then (x_done (.inl rfl) (.cons (r_tmp rfl) (.cons (r_tmp rfl) .nil)) ?_))))))))
    refine ⟨_, ⟨?_, rfl⟩, inferInstance⟩
    have ho : ownB fr.length pg pa 4 = false := by simpa using c2
    simp [pack, ho]
  · intro c2
    have ho : ownB fr.length pg pa 4 = true := Decidable.not_not.1 c2
    have hrd : rdO fr pg pa 4 = rdL fr pg pa 4 := by rw [rdO, if_pos ho]; rfl
    have hln : (rdL fr pg pa 4).length = 4 := rdL_len _ _ _ _
    obtain ⟨hg1, hg2⟩ := getN_all hln
    rw [hrd]
    refine run_form (E := 5) (sz := 1) (a := a) (c := c) (n := (rdL fr pg pa 4).length) (fun hf => ?_)
    obtain ⟨g, rfl⟩ := form_some hf (by intro h0; have := congrArg List.length h0; rw [byV_len, hln] at this; simp at this)
    refine run_cap (E := 5) (sz := 1) (a := some ⟨g, 0, none⟩) (c := c) (n := (rdL fr pg pa 4).length) (fun hcap => ?_)
    refine x_skip (n_then (x_seq (x_region (s_val rfl (v_move rfl) (s_do rfl (d_call Tryz.call110 rfl (refGet02_spec W0 _ g 0 c (rdL fr pg pa 4) 0 4 (cells_osl (E := 5) (sz := 1) (a := some ⟨g, 0, none⟩) (c := c) (n := (rdL fr pg pa 4).length)) (rdL_by hF _ _ _) hcap.1 (maxLen_lt hcap.2))) ?_)))))
    rintro _ B_ ⟨rfl, hB_⟩
    obtain rfl := hB_.symm
    rw [hg1, hg2]
    refine s_val rfl (v_move rfl) (s_val rfl (v_extract rfl rfl) (s_val rfl (v_extract rfl rfl) (s_val rfl (v_assign rfl) (s_val rfl (v_assign rfl) (x_nil (n_then (x_seq (x_region (s_val rfl (v_move rfl) (s_val rfl (v_assign rfl) (s_val rfl (v_assign rfl) (x_nil (n_then (x_ret (x_done (.inl rfl) (.cons (r_tmp rfl) (.cons (r_tmp rfl) .nil)) ?_)))))))))))))))
    refine ⟨_, ⟨?_, rfl⟩, inferInstance⟩
    simp [pack, ho]
end Go.Proofs.YtlnmofhehcilhaaGreat
namespace Go.Proofs.YtlnmofhehcilhaaGreat
open Go.RowKit
set_option linter.unusedSimpArgs false
set_option linter.unusedVariables false
set_option maxRecDepth 20000
structure QS where
  r : Rg3
  on : Bool
  br : Int
  last : Nat
  put : Nat
@[reducible] def qs0 : QS := ⟨⟨0, 0, 0, 0⟩, false, 0, 0, 0⟩
@[reducible] def qsV (s : QS) : List Value := [.int .u32 s.r.desc, .int .u32 s.r.avail, .int .u32 s.r.used, .int .i64 s.r.n, .bool s.on, .int .i64 s.br, .int .i64 s.last, .int .i64 s.put]
abbrev qO (m : Bool) (s : QS) : Obj := cob [.int .u32 s.r.desc, .int .u32 s.r.avail, .int .u32 s.r.used, .int .i64 s.r.n, .bool s.on, .int .i64 s.br, .int .i64 s.last, .int .i64 s.put, .bool m] 196
def qSz (p : Nat) (n : Int) : Int := if szd n then (if p = 0 then 16 * n else if p = 1 then 4 + 4 * n else if p = 2 then 4 + 8 * n else 0) else 0
theorem szd_iff {n : Int} : szd n = true ↔ n = 2 ∨ n = 4 ∨ n = 8 := by unfold szd; exact ⟨of_decide_eq_true, decide_eq_true⟩
theorem dsSize_spec (W0 : World) (R : List HP) (p : Nat) (n : Int) : Spec Tryz.prog W0 244 [.int .i64 p, .int .i64 n] R (fun v B => v = .int .i64 (qSz p n) ∧ B = R) := by
  refine spec_body Tryz.func244 Tryz.ntmps244 rfl rfl ?_
  refine x_seq (x_region (s_val rfl (v_assign rfl) (x_nil (n_then (x_seq (x_seq (x_region (s_val rfl (v_move rfl) (s_do rfl (d_call Tryz.call278 rfl (dsSized_spec W0 _ n)) ?_)))))))))
  rintro _ B_ ⟨rfl, hB_⟩
  obtain rfl := hB_.symm
  refine s_val rfl (v_not rfl) (x_nil (n_then ?_))
  refine x_if rfl ?_ ?_
  · intro c1
    refine x_seq (x_region (s_val rfl (v_assign rfl) (x_nil (n_then (x_ret (r_then (x_done (.inl rfl) (.cons (r_tmp rfl) .nil) ?_)))))))
    refine ⟨_, ⟨?_, rfl⟩, inferInstance⟩
    have hz : ¬ szd n = true := c1
    refine congrArg (Value.int .i64) (Eq.symm ?_)
    rw [qSz, if_neg hz]
  · intro c1
    have hz : szd n = true := Decidable.not_not.1 c1
    have hn := szd_iff.1 hz
    refine x_skip (n_then (x_seq (x_seq (x_region (s_val rfl (v_move rfl) (x_nil (n_then (x_block (x_seq (x_region (s_val rfl (v_eql rfl rfl) (s_val rfl (v_assign rfl) (x_nil (n_then ?_))))))))))))))
    refine x_if rfl ?_ ?_
    · intro c4
      refine x_seq (x_region (s_val rfl (v_move rfl) ?_))
      refine s_val rfl (v_mul rfl rfl (w64 (by omega))) ?_
      refine s_val rfl (v_assign rfl) (x_nil (n_then (x_ret (r_block (r_then (x_done (.inl rfl) (.cons (r_tmp rfl) .nil) ?_))))))
      refine ⟨_, ⟨?_, rfl⟩, inferInstance⟩
      refine congrArg (Value.int .i64) (Eq.symm ?_)
      rw [qSz, if_pos hz]
      (repeat' split) <;> first | rfl | omega
    · intro c4
      refine x_seq (x_region (s_val rfl (v_eql rfl rfl) (s_val rfl (v_assign rfl) (x_nil (n_then ?_)))))
      refine x_if rfl ?_ ?_
      · intro c6
        refine x_seq (x_region (s_val rfl (v_move rfl) ?_))
        refine s_val rfl (v_mul rfl rfl (w64 (by omega))) ?_
        refine s_val rfl (v_add rfl rfl (w64 (by omega))) ?_
        refine s_val rfl (v_assign rfl) (x_nil (n_then (x_ret (r_block (r_then (x_done (.inl rfl) (.cons (r_tmp rfl) .nil) ?_))))))
        refine ⟨_, ⟨?_, rfl⟩, inferInstance⟩
        refine congrArg (Value.int .i64) (Eq.symm ?_)
        rw [qSz, if_pos hz]
        (repeat' split) <;> first | rfl | omega
      · intro c6
        refine x_seq (x_region (s_val rfl (v_eql rfl rfl) (s_val rfl (v_assign rfl) (x_nil (n_then ?_)))))
        refine x_if rfl ?_ ?_
        · intro c8
          refine x_seq (x_region (s_val rfl (v_move rfl) ?_))
          refine s_val rfl (v_mul rfl rfl (w64 (by omega))) ?_
          refine s_val rfl (v_add rfl rfl (w64 (by omega))) ?_
          refine s_val rfl (v_assign rfl) (x_nil (n_then (x_ret (r_block (r_then (x_done (.inl rfl) (.cons (r_tmp rfl) .nil) ?_))))))
          refine ⟨_, ⟨?_, rfl⟩, inferInstance⟩
          refine congrArg (Value.int .i64) (Eq.symm ?_)
          rw [qSz, if_pos hz]
          (repeat' split) <;> first | rfl | omega
        · intro c8
          refine x_skip (n_block (n_then (x_seq (x_region (s_val rfl (v_assign rfl) (x_nil (n_then (x_ret (x_done (.inl rfl) (.cons (r_tmp rfl) .nil) ?_)))))))))
          refine ⟨_, ⟨?_, rfl⟩, inferInstance⟩
          refine congrArg (Value.int .i64) (Eq.symm ?_)
          rw [qSz, if_pos hz]
          (repeat' split) <;> first | rfl | omega
theorem qNone_spec (W0 : World) (R : List HP) (b : Nat) (m : Bool) (s : QS) : Spec Tryz.prog W0 118 [.pointer (some ⟨b, 0, none⟩)] (pt b (qO m s) :: R) (fun v B => v = .bool (!m) ∧ B = pt b (qO m s) :: R) := by
  refine spec_body Tryz.func118 Tryz.ntmps118 rfl rfl ?_
  refine x_seq (x_region (s_val rfl (v_assign rfl) (x_nil (n_then (x_seq (x_region (s_val rfl (v_move rfl) (s_val rfl (v_eql_ptr_nil Tryz.underlying52 rfl rfl) (s_val rfl (v_move rfl) ?_)))))))))
  refine s_or rfl rfl rfl ?_ ?_
  · intro g1_3
    cases g1_3
  · intro g1_3
    refine s_val rfl (v_move rfl) (s_yes rfl rfl (s_val rfl (v_nilCheck rfl) (s_yes rfl rfl ?_)))
    refine s_val rfl (v_fieldAddr rfl Tryz.underlying196 rfl Tryz.sizeOf4 rfl (by first | exact Nat.zero_add _ | rfl)) ?_
    refine s_yes rfl rfl (s_val rfl (v_load Tryz.isAgg4 rfl (cell_own rfl)) ?_)
    refine s_yes rfl rfl (s_val rfl (v_not rfl) (s_val rfl (v_pick_f rfl rfl) (s_val rfl (v_assign rfl) (x_nil (n_then (x_ret (x_done (.inl rfl) (.cons (r_tmp rfl) .nil) ?_)))))))
    exact ⟨_, ⟨rfl, rfl⟩, inferInstance⟩
theorem qNew_spec (W0 : World) (R : List HP) : Spec Tryz.prog W0 91 [] R (fun v B => ∃ b, v = .pointer (some ⟨b, 0, none⟩) ∧ B = pt b (qO true qs0) :: R) := by
  refine spec_body Tryz.func91 Tryz.ntmps91 rfl rfl ?_
  refine x_seq (x_region (s_val rfl (v_assign rfl) (x_nil (n_then (x_seq (x_region (s_val rfl (v_build Tryz.underlying196 Tryz.zeroValue196 (sized_cons Tryz.sizeOf73 (sized_cons Tryz.sizeOf4 sized_nil)) (fil_scal rfl Tryz.sizeOf4 rfl rfl (Nat.le_of_ble_eq_true rfl) SetL.eq fil_nil)) ?_)))))))
  refine s_do rfl (d_boxA rfl) ?_
  rintro _ _ ⟨b1, rfl, rfl⟩
  refine s_val rfl (v_assign rfl) (x_nil (n_then (x_ret (x_done (.inl rfl) (.cons (r_tmp rfl) .nil) ?_))))
  exact ⟨_, ⟨_, rfl, rfl⟩, inferInstance⟩
theorem qBreaks_spec (W0 : World) (R : List HP) (b : Nat) (m : Bool) (s : QS) (w : Int) : Spec Tryz.prog W0 211 [.pointer (some ⟨b, 0, none⟩), .int .i64 w] (pt b (qO m s) :: R) (fun v B => v = .int .i64 w ∧ B = pt b (qO m { s with br := w }) :: R) := by
  refine spec_body Tryz.func211 Tryz.ntmps211 rfl rfl ?_
  refine x_seq (x_region (s_val rfl (v_assign rfl) (x_nil (n_then (x_seq (x_region (s_val rfl (v_move rfl) (s_val rfl (v_move rfl) (s_val rfl (v_nilCheck rfl) ?_)))))))))
  refine s_val rfl (v_fieldAddr rfl Tryz.underlying196 rfl Tryz.sizeOf73 rfl (by first | exact Nat.zero_add _ | rfl)) ?_
  refine s_val rfl (v_fieldAddr rfl Tryz.underlying73 rfl Tryz.sizeOf3 rfl (by first | exact Nat.zero_add _ | rfl)) ?_
  refine s_do0 (d_store Tryz.sizeOf3 rfl rfl rfl (Nat.le_of_ble_eq_true rfl) SetL.eq) ?_
  rintro _ _ rfl
  refine x_nil (n_then (x_seq (x_region (s_val rfl (v_move rfl) (s_val rfl (v_assign rfl) (x_nil (n_then (x_ret (x_done (.inl rfl) (.cons (r_tmp rfl) .nil) ?_)))))))))
  exact ⟨_, ⟨rfl, rfl⟩, inferInstance⟩
theorem qUsable_spec (W0 : World) (R : List HP) (b : Nat) (m : Bool) (s : QS) : Spec Tryz.prog W0 247 [.pointer (some ⟨b, 0, none⟩)] (pt b (qO m s) :: R) (fun v B => v = .bool (s.on && decide (s.br = 0)) ∧ B = pt b (qO m s) :: R) := by
  refine spec_body Tryz.func247 Tryz.ntmps247 rfl rfl ?_
  refine x_seq (x_region (s_val rfl (v_assign rfl) (x_nil (n_then (x_seq (x_region (s_val rfl (v_move rfl) (s_val rfl (v_nilCheck rfl) ?_))))))))
  refine s_val rfl (v_fieldAddr rfl Tryz.underlying196 rfl Tryz.sizeOf73 rfl (by first | exact Nat.zero_add _ | rfl)) ?_
  refine s_val rfl (v_fieldAddr rfl Tryz.underlying73 rfl Tryz.sizeOf4 rfl (by first | exact Nat.zero_add _ | rfl)) ?_
  refine s_val rfl (v_load Tryz.isAgg4 rfl (cell_own rfl)) ?_
  refine s_val rfl (v_move rfl) ?_
  refine s_and rfl rfl rfl ?_ ?_
  · intro g1_6
    refine s_val rfl (v_move rfl) (s_yes rfl rfl (s_val rfl (v_nilCheck rfl) (s_yes rfl rfl ?_)))
    refine s_val rfl (v_fieldAddr rfl Tryz.underlying196 rfl Tryz.sizeOf73 rfl (by first | exact Nat.zero_add _ | rfl)) ?_
    refine s_yes rfl rfl ?_
    refine s_val rfl (v_fieldAddr rfl Tryz.underlying73 rfl Tryz.sizeOf3 rfl (by first | exact Nat.zero_add _ | rfl)) ?_
    refine s_yes rfl rfl (s_val rfl (v_load Tryz.isAgg3 rfl (cell_own rfl)) ?_)
    refine s_yes rfl rfl (s_val rfl (v_eql rfl rfl) (s_val rfl (v_pick_t rfl rfl) (s_val rfl (v_assign rfl) (x_nil (n_then (x_ret (x_done (.inl rfl) (.cons (r_tmp rfl) .nil) ?_)))))))
    refine ⟨_, ⟨?_, rfl⟩, inferInstance⟩
    simp_all [pack] <;> rfl
  · intro g1_6
    refine s_no rfl rfl rfl rfl (s_no rfl rfl rfl rfl (s_no rfl rfl rfl rfl (s_no rfl rfl rfl rfl (s_no rfl rfl rfl rfl (s_val rfl (v_pick_f rfl rfl) (s_val rfl (v_assign rfl) (x_nil (n_then (x_ret (x_done (.inl rfl) (.cons (r_tmp rfl) .nil) ?_))))))))))
    refine ⟨_, ⟨?_, rfl⟩, inferInstance⟩
    simp_all [pack] <;> rfl
theorem qOne_spec (W0 : World) (R : List HP) (n : Nat) (hn : n < 65536) : Spec Tryz.prog W0 249 [.int .i64 n] R (fun v B => v = .int .i64 ((n + 1) % 65536 : Nat) ∧ B = R) := by
  refine spec_body Tryz.func249 Tryz.ntmps249 rfl rfl ?_
  refine x_seq (x_region (s_val rfl (v_assign rfl) (x_nil (n_then (x_seq (x_region (s_val rfl (v_move rfl) ?_)))))))
  refine s_val rfl (v_add rfl rfl (by rw [w64 (by omega)]; omega : IntKind.wrap .i64 ((n : Int) + 1) = ((n + 1 : Nat) : Int))) ?_
  refine s_val rfl (v_rem rfl rfl (by decide) (tmodN (n + 1) 65536)) ?_
  refine s_val rfl (v_assign rfl) (x_nil (n_then (x_ret (x_done (.inl rfl) (.cons (r_tmp rfl) .nil) ?_))))
  exact ⟨_, ⟨rfl, rfl⟩, inferInstance⟩
def wtN (last w : Nat) : Nat := (w % 65536 + 65536 - last) % 65536
theorem qWaiting_spec (W0 : World) (R : List HP) (b : Nat) (m : Bool) (s : QS) (hs : s.last < 65536) (w : Nat) (hw : w < 4294967296) : Spec Tryz.prog W0 284 [.pointer (some ⟨b, 0, none⟩), .int .u32 w] (pt b (qO m s) :: R) (fun v B => v = .int .i64 (wtN s.last w : Nat) ∧ B = pt b (qO m s) :: R) := by
  refine spec_body Tryz.func284 Tryz.ntmps284 rfl rfl ?_
  refine x_seq (x_region (s_val rfl (v_assign rfl) (x_nil (n_then (x_seq (x_region (s_val rfl (v_move rfl) ?_)))))))
  refine s_val rfl (v_rem rfl rfl (by decide) (tmodN w 65536)) ?_
  refine s_val rfl (v_conv Tryz.underlying47 Tryz.underlying3 rfl (w64 (by omega))) ?_
  refine s_val rfl (v_move rfl) (s_val rfl (v_nilCheck rfl) ?_)
  refine s_val rfl (v_fieldAddr rfl Tryz.underlying196 rfl Tryz.sizeOf73 rfl (by first | exact Nat.zero_add _ | rfl)) ?_
  refine s_val rfl (v_fieldAddr rfl Tryz.underlying73 rfl Tryz.sizeOf3 rfl (by first | exact Nat.zero_add _ | rfl)) ?_
  refine s_val rfl (v_load Tryz.isAgg3 rfl (cell_own rfl)) ?_
  refine s_val rfl (v_sub rfl rfl (w64 (by omega))) ?_
  refine s_val rfl (v_add rfl rfl (by rw [w64 (by omega)]; omega : IntKind.wrap .i64 (((w % 65536 : Nat) : Int) - (s.last : Int) + 65536) = ((w % 65536 + 65536 - s.last : Nat) : Int))) ?_
  refine s_val rfl (v_rem rfl rfl (by decide) (tmodN (w % 65536 + 65536 - s.last) 65536)) ?_
  refine s_val rfl (v_assign rfl) (x_nil (n_then (x_ret (x_done (.inl rfl) (.cons (r_tmp rfl) .nil) ?_))))
  exact ⟨_, ⟨rfl, rfl⟩, inferInstance⟩
theorem qState_spec (W0 : World) (R : List HP) (b : Nat) (s : QS) : Spec Tryz.prog W0 34 [.pointer (some ⟨b, 0, none⟩)] (pt b (qO true s) :: R) (fun v B => v = .agg (qsV s).toArray ∧ B = pt b (qO true s) :: R) := by
  refine spec_body Tryz.func34 Tryz.ntmps34 rfl rfl ?_
  refine x_seq (x_region (s_do rfl (d_allocA Tryz.zeroValue73) ?_))
  rintro _ _ ⟨b1, rfl, rfl⟩
  refine x_nil (n_then (x_seq (x_seq (x_region (s_val rfl (v_move rfl) (s_do rfl (d_call1 Tryz.call118 rfl (qNone_spec W0 _ b true s)) ?_))))))
  rintro _ B_ ⟨rfl, hB_⟩
  obtain rfl := hB_.symm
  refine x_nil (n_then ?_)
  refine x_if rfl ?_ ?_
  · intro c1
    exact absurd c1 (by decide)
  · intro c1
    refine x_skip (n_then (x_seq (x_region (s_val rfl (v_move rfl) (s_val rfl (v_nilCheck rfl) ?_)))))
    refine s_val rfl (v_fieldAddr rfl Tryz.underlying196 rfl Tryz.sizeOf73 rfl (by first | exact Nat.zero_add _ | rfl)) ?_
    refine s_val rfl (v_loadPart Tryz.isAgg73 Tryz.sizeOf73 rfl TakeL.eq rfl) ?_
    refine s_do0 (d_storeAll Tryz.sizeOf73 rfl rfl rfl rfl rfl) ?_
    rintro _ _ rfl
    refine x_nil (n_then (x_ret (x_done (.inl rfl) (.cons (r_all Tryz.isAgg73 Tryz.sizeOf73 rfl rfl) .nil) ?_)))
    exact ⟨_, ⟨rfl, rfl⟩, inferInstance⟩
def fitB (len : Nat) (pg : List Pl) (r : Rg3) : Bool := (ownB len pg r.desc (qSz 0 r.n) && ownB len pg r.avail (qSz 1 r.n) && ownB len pg r.used (qSz 2 r.n)) && rgtB r
theorem octB1_spec (W0 : World) (R : List HP) (a : Option Addr) (c w : Nat) (hs : SlA (OwnP W0 R) a 1 (fun x => [wV x]) [w]) (hw : w < 4294967296) :
    Spec Tryz.prog W0 180 [.slice a 1 c] R (fun v B => ∃ a' c', v = .slice a' 4 c' ∧ B = osl 5 1 (.slice a' 4 c') (byV (bytesL [w])) :: R) :=
  octBytes_spec W0 R a c [w] hs (fun x hx => by simp at hx; omega) (by simp)
theorem qPut_spec (W0 : World) (R : List HP) (pv ps pm d : Nat) (fr : List Frm) (pg : List Pl) (h : Pgs pg) (hF : Frs fr) (hd : d < 4096) (pa : Nat) (hpa : pa < 4294967296) (w : Nat) (hw : w < 4294967296) :
    Spec Tryz.prog W0 248 [.pointer (some ⟨pv, 0, none⟩), .int .u32 pa, .int .u32 w] (vwW pv ps pm d fr pg R)
      (fun v B => v = .bool (ownB fr.length pg pa 4) ∧ B = vwW pv ps pm (wrE fr pg pa d 4) (wrF fr pg pa (bytesL [w])) pg R) := by
  refine spec_body Tryz.func248 Tryz.ntmps248 rfl rfl ?_
  refine x_seq (x_region (s_val rfl (v_assign rfl) (x_nil (n_then (x_seq (x_region (s_val rfl (v_move rfl) (s_val rfl (v_move rfl) (s_val rfl (v_move rfl) ?_)))))))))
  refine s_do rfl (d_sliceLit Tryz.underlying45 Tryz.sizeOf47 Tryz.zeroValue47 rfl rfl rfl rfl rfl (by decide) (by decide)) ?_
  rintro _ _ ⟨b1, rfl, rfl⟩
  refine s_do rfl (d_call Tryz.call180 rfl (octB1_spec W0 _ (some ⟨b1, 0, none⟩) _ w (sla_pt (fun _ => rfl) rfl) hw)) ?_
  rintro _ B_ ⟨a', c', rfl, hB_⟩
  obtain rfl := hB_.symm
  refine run_form (E := 5) (sz := 1) (a := a') (c := c') (n := 4) (fun hf => ?_)
  refine s_do rfl (d_call3 Tryz.call88 rfl (viWriteN_spec W0 _ pv ps pm d c' 4 a' fr pg h hF hd pa hpa (bytesL [w]) (by rw [bytesL_len]; rfl) (bytesL_by _) (sla_cells hf (cells_osl (E := 5) (sz := 1) (a := a') (c := c') (n := 4)) (fun _ => rfl) (byV_fm _).symm (by decide)) (by decide))) ?_
  rintro _ B_ ⟨rfl, hB_⟩
  obtain rfl := hB_.symm
  refine s_val rfl (v_assign rfl) (x_nil (n_then (x_ret (x_done (.inl rfl) (.cons (r_tmp rfl) .nil) ?_))))
  exact ⟨_, ⟨rfl, rfl⟩, inferInstance⟩
def wrdW (fr : List Frm) (pg : List Pl) (pa : Nat) : Nat := if ownB fr.length pg pa 4 then leN (rdL fr pg pa 4) else 0
theorem wrdW_lt {fr : List Frm} (hF : Frs fr) (pg : List Pl) (pa : Nat) : wrdW fr pg pa < 4294967296 := by
  unfold wrdW; split
  · have := leN_lt (rdL_by hF pg pa 4); rw [rdL_len] at this; exact this
  · decide
theorem qWord_spec (W0 : World) (R : List HP) (pv ps pm d : Nat) (fr : List Frm) (pg : List Pl) (h : Pgs pg) (hF : Frs fr) (pa : Nat) (hpa : pa < 4294967296) :
    Spec Tryz.prog W0 283 [.pointer (some ⟨pv, 0, none⟩), .int .u32 pa] (vwW pv ps pm d fr pg R)
      (fun v B => v = .tuple #[.int .u32 (wrdW fr pg pa : Nat), .bool (ownB fr.length pg pa 4)] ∧ B = vwW pv ps pm d fr pg R) := by
  refine spec_body Tryz.func283 Tryz.ntmps283 rfl rfl ?_
  refine x_seq (x_region (s_val rfl (v_assign rfl) (s_val rfl (v_assign rfl) (x_nil (n_then (x_seq (x_region (s_val rfl (v_move rfl) (s_val rfl (v_move rfl) (s_do rfl (d_call3 Tryz.call47 rfl (viRead_spec W0 _ pv ps pm d fr pg h hF pa hpa 4)) ?_))))))))))
  rintro _ B_ ⟨a, c, rfl, hB_⟩
  obtain rfl := hB_.symm
  refine s_val rfl (v_move rfl) (s_val rfl (v_extract rfl rfl) (s_val rfl (v_extract rfl rfl) (s_val rfl (v_assign rfl) (s_val rfl (v_assign rfl) (x_nil (n_then (x_seq (x_seq (x_region (s_val rfl (v_move rfl) (s_val rfl (v_not rfl) (x_nil (n_then ?_)))))))))))))
  refine x_if rfl ?_ ?_
  · intro c2
    refine x_seq (x_region (s_val rfl (v_assign rfl) (s_val rfl (v_assign rfl) (x_nil (n_then (x_ret (r_then (x_done (.inl rfl) (.cons (r_tmp rfl) (.cons (r_tmp rfl) .nil)) ?_))))))))
    refine ⟨_, ⟨?_, rfl⟩, inferInstance⟩
    have ho : ownB fr.length pg pa 4 = false := by simpa using c2
    simp [pack, wrdW, ho]
  · intro c2
    have ho : ownB fr.length pg pa 4 = true := Decidable.not_not.1 c2
    have hrd : rdO fr pg pa 4 = rdL fr pg pa 4 := by rw [rdO, if_pos ho]; rfl
    have hln : (rdL fr pg pa 4).length = 4 := rdL_len _ _ _ _
    obtain ⟨hg1, hg2⟩ := getN_all hln
    rw [hrd]
    refine run_form (E := 5) (sz := 1) (a := a) (c := c) (n := (rdL fr pg pa 4).length) (fun hf => ?_)
    obtain ⟨g, rfl⟩ := form_some hf (by intro h0; have := congrArg List.length h0; rw [byV_len, hln] at this; simp at this)
    refine run_cap (E := 5) (sz := 1) (a := some ⟨g, 0, none⟩) (c := c) (n := (rdL fr pg pa 4).length) (fun hcap => ?_)
    refine x_skip (n_then (x_seq (x_region (s_val rfl (v_move rfl) (s_do rfl (d_call Tryz.call188 rfl (octGet_spec W0 _ g 0 c (rdL fr pg pa 4) 0 4 (cells_osl (E := 5) (sz := 1) (a := some ⟨g, 0, none⟩) (c := c) (n := (rdL fr pg pa 4).length)) (rdL_by hF _ _ _) hcap.1 (maxLen_lt hcap.2))) ?_)))))
    rintro _ B_ ⟨rfl, hB_⟩
    obtain rfl := hB_.symm
    rw [hg1, hg2]
    refine s_val rfl (v_move rfl) (s_val rfl (v_extract rfl rfl) (s_val rfl (v_extract rfl rfl) (s_val rfl (v_assign rfl) (s_val rfl (v_assign rfl) (x_nil (n_then (x_seq (x_region (s_val rfl (v_move rfl) (s_val rfl (v_move rfl) (s_val rfl (v_eql rfl rfl) (s_val rfl (v_assign rfl) (s_val rfl (v_assign rfl) (x_nil (n_then (x_ret (x_done (.inl rfl) (.cons (r_tmp rfl) (.cons (r_tmp rfl) .nil)) ?_)))))))))))))))))
    refine ⟨_, ⟨?_, rfl⟩, inferInstance⟩
    simp [pack, wrdW, ho]
theorem qRead_spec (W0 : World) (R : List HP) (bv bb pv ps pm d : Nat) (bad : Int) (fr : List Frm) (pg : List Pl) (h : Pgs pg) (hF : Frs fr) (pa : Nat) (hpa : pa < 4294967296) :
    Spec Tryz.prog W0 282 [.int .u32 pa, .pointer (some ⟨bv, 0, none⟩), .pointer (some ⟨bb, 0, none⟩)] (pt bv (cob [.pointer (some ⟨pv, 0, none⟩)] 51) :: pt bb (cob [.int .i64 bad] 3) :: vwW pv ps pm d fr pg R)
      (fun v B => v = .int .u32 (wrdW fr pg pa : Nat) ∧ B = pt bv (cob [.pointer (some ⟨pv, 0, none⟩)] 51) :: pt bb (cob [.int .i64 (if ownB fr.length pg pa 4 then bad else 5)] 3) :: vwW pv ps pm d fr pg R) := by
  by_cases ho : ownB fr.length pg pa 4 = true
  · rw [if_pos ho]
    refine spec_body Tryz.func282 Tryz.ntmps282 rfl rfl ?_
    refine x_seq (x_region (s_val rfl (v_assign rfl) (x_nil (n_then (x_seq (x_region (s_val rfl (v_load Tryz.isAgg51 rfl (cell_own rfl)) ?_)))))))
    refine s_val rfl (v_move rfl) (s_do rfl (d_call3 Tryz.call283 rfl (qWord_spec W0 _ pv ps pm d fr pg h hF pa hpa)) ?_)
    rintro _ B_ ⟨rfl, hB_⟩
    obtain rfl := hB_.symm
    refine s_val rfl (v_move rfl) (s_val rfl (v_extract rfl rfl) (s_val rfl (v_extract rfl rfl) (s_val rfl (v_assign rfl) (s_val rfl (v_assign rfl) (x_nil (n_then (x_seq (x_seq (x_region (s_val rfl (v_move rfl) (s_val rfl (v_not rfl) (x_nil (n_then ?_)))))))))))))
    refine x_if rfl ?_ ?_
    · intro c2
      exact absurd ho c2
    · intro c2
      refine x_skip (n_then (x_seq (x_region (s_val rfl (v_move rfl) (s_val rfl (v_assign rfl) (x_nil (n_then (x_ret (x_done (.inl rfl) (.cons (r_tmp rfl) .nil) ?_)))))))))
      exact ⟨_, ⟨rfl, rfl⟩, inferInstance⟩
  · rw [if_neg ho]
    refine spec_body Tryz.func282 Tryz.ntmps282 rfl rfl ?_
    refine x_seq (x_region (s_val rfl (v_assign rfl) (x_nil (n_then (x_seq (x_region (s_val rfl (v_load Tryz.isAgg51 rfl (cell_own rfl)) ?_)))))))
    refine s_val rfl (v_move rfl) (s_do rfl (d_call3 Tryz.call283 rfl (qWord_spec W0 _ pv ps pm d fr pg h hF pa hpa)) ?_)
    rintro _ B_ ⟨rfl, hB_⟩
    obtain rfl := hB_.symm
    refine s_val rfl (v_move rfl) (s_val rfl (v_extract rfl rfl) (s_val rfl (v_extract rfl rfl) (s_val rfl (v_assign rfl) (s_val rfl (v_assign rfl) (x_nil (n_then (x_seq (x_seq (x_region (s_val rfl (v_move rfl) (s_val rfl (v_not rfl) (x_nil (n_then ?_)))))))))))))
    refine x_if rfl ?_ ?_
    · intro c2
      refine x_region (s_do0 (d_store Tryz.sizeOf3 rfl rfl rfl (Nat.le_of_ble_eq_true rfl) SetL.eq) ?_)
      rintro _ _ rfl
      refine x_nil (n_then (x_seq (x_region (s_val rfl (v_move rfl) (s_val rfl (v_assign rfl) (x_nil (n_then (x_ret (x_done (.inl rfl) (.cons (r_tmp rfl) .nil) ?_)))))))))
      exact ⟨_, ⟨rfl, rfl⟩, inferInstance⟩
    · intro c2
      exact absurd (Decidable.not_not.1 c2) ho
end Go.Proofs.YtlnmofhehcilhaaGreat
namespace Go.Proofs.YtlnmofhehcilhaaGreat
open Go.RowKit
set_option linter.unusedSimpArgs false
set_option linter.unusedVariables false
set_option maxRecDepth 20000
theorem d_callv5 {P : Program} {W0 : World} {N : FSz} {e : Env} {A R R1 R2 R3 R4 : List HP} {vs us cs : List Value} {K1 K2 K3 K4 K5 X1 X2 X3 X4 X5 : Type} {r1 : K1 → X1 → HP} {b1 : K1} {x1 : X1} {r2 : K2 → X2 → HP} {b2 : K2} {x2 : X2} {r3 : K3 → X3 → HP} {b3 : K3} {x3 : X3} {r4 : K4 → X4 → HP} {b4 : K4} {x4 : X4} {r5 : K5 → X5 → HP} {b5 : K5} {x5 : X5}
    {f : FuncId} {xs : Array Operand} {ats : Array TypeId} {Post : Value → List HP → Prop} {fx : Operand} (hf : ev e fx = some (.func (.func f) us.toArray cs.toArray)) (hc : ∀ args w, (callFunc f args).run P w = .ok (.enter f args) w) (hx : evs e xs.toList = some vs)
    (hs : Spec P W0 f (us ++ vs ++ cs) (r1 b1 x1 :: r2 b2 x2 :: r3 b3 x3 :: r4 b4 x4 :: r5 b5 x5 :: R) Post) [h1 : Tk r1 b1 A x1 R1] [h2 : Tk r2 b2 R1 x2 R2] [h3 : Tk r3 b3 R2 x3 R3] [h4 : Tk r4 b4 R3 x4 R4] [h5 : Tk r5 b5 R4 x5 R] : Does P W0 N e A (.call { callee := .value fx, args := xs, argTypes := ats }) Post :=
  does_perm perm5 (d_callv hf hc hx hs)
def hdA (sa last n : Nat) : Nat := sa + 4 + 4 * (last % n)
def hdR (fr : List Frm) (pg : List Pl) (sa last n : Nat) : Nat × Bool × Int :=
  if ownB fr.length pg sa 4 then
    (if n < wtN last (wrdW fr pg sa) then (0, false, 7) else if wtN last (wrdW fr pg sa) = 0 then (0, false, 0) else
      if ownB fr.length pg (hdA sa last n) 4 then (if n ≤ wrdW fr pg (hdA sa last n) then (0, false, 1) else (wrdW fr pg (hdA sa last n), true, 0)) else (0, false, 5))
  else (0, false, 5)
theorem qHead_spec (W0 : World) (R : List HP) (b pv ps pm d : Nat) (fr : List Frm) (pg : List Pl) (h : Pgs pg) (hF : Frs fr) (sd sa su n last put : Nat) (on : Bool) (br : Int) (hn : n = 2 ∨ n = 4 ∨ n = 8) (ha : sa ≤ 1000) (hl : last < 65536) :
    Spec Tryz.prog W0 261 [.pointer (some ⟨b, 0, none⟩), .pointer (some ⟨pv, 0, none⟩)] (pt b (qO true ⟨⟨sd, sa, su, n⟩, on, br, last, put⟩) :: vwW pv ps pm d fr pg R)
      (fun v B => v = .tuple #[.int .i64 ((hdR fr pg sa last n).1 : Nat), .bool (hdR fr pg sa last n).2.1, .int .i64 (hdR fr pg sa last n).2.2] ∧ B = pt b (qO true ⟨⟨sd, sa, su, n⟩, on, br, last, put⟩) :: vwW pv ps pm d fr pg R) := by
  have hm := Nat.mod_lt last (show 0 < n by omega)
  have hA : hdA sa last n = sa + 4 + 4 * (last % n) := rfl
  have hw1 := wrdW_lt hF pg sa
  have hw2 := wrdW_lt hF pg (hdA sa last n)
  refine spec_body Tryz.func261 Tryz.ntmps261 rfl rfl ?_
  refine x_seq (x_region (s_do rfl (d_box rfl rfl) ?_))
  rintro _ _ ⟨b1, rfl, rfl⟩
  refine s_val rfl (v_assign rfl) (s_val rfl (v_assign rfl) (s_val rfl (v_assign rfl) (x_nil (n_then (x_seq (x_region (s_do rfl (d_alloc Tryz.zeroValue3 rfl) ?_)))))))
  rintro _ _ ⟨b2, rfl, rfl⟩
  refine s_do0 (d_store Tryz.sizeOf3 rfl rfl rfl (Nat.le_of_ble_eq_true rfl) SetL.eq) ?_
  rintro _ _ rfl
  refine x_nil (n_then (x_seq (x_region (s_val rfl (v_mkFunc rfl rfl) ?_))))
  refine s_val rfl (v_assign rfl) (x_nil (n_then (x_seq (x_region (s_val rfl (v_move rfl) (s_val rfl (v_move rfl) (s_val rfl (v_move rfl) (s_val rfl (v_nilCheck rfl) ?_))))))))
  refine s_val rfl (v_fieldAddr rfl Tryz.underlying196 rfl Tryz.sizeOf73 rfl (by first | exact Nat.zero_add _ | rfl)) ?_
  refine s_val rfl (v_fieldAddr rfl Tryz.underlying73 rfl Tryz.sizeOf71 rfl (by first | exact Nat.zero_add _ | rfl)) ?_
  refine s_val rfl (v_fieldAddr rfl Tryz.underlying71 rfl Tryz.sizeOf47 rfl (by first | exact Nat.zero_add _ | rfl)) ?_
  refine s_val rfl (v_load Tryz.isAgg47 rfl (cell_own rfl)) ?_
  refine s_do rfl (d_callv5 rfl Tryz.call282 rfl (qRead_spec W0 _ b1 b2 pv ps pm d 0 fr pg h hF sa (by omega))) ?_
  rintro _ B_ ⟨rfl, hB_⟩
  obtain rfl := hB_.symm
  refine s_do rfl (d_call1 Tryz.call284 rfl (qWaiting_spec W0 _ b true ⟨⟨sd, sa, su, n⟩, on, br, last, put⟩ hl _ hw1)) ?_
  rintro _ B_ ⟨rfl, hB_⟩
  obtain rfl := hB_.symm
  refine s_val rfl (v_assign rfl) (x_nil (n_then (x_seq (x_block (x_seq (x_region (s_val rfl (v_load Tryz.isAgg3 rfl (cell_own rfl)) ?_)))))))
  refine s_val rfl (v_neq rfl rfl) (s_val rfl (v_assign rfl) (x_nil (n_then ?_)))
  refine x_if rfl ?_ ?_
  · intro c4
    have ho : ¬ ownB fr.length pg sa 4 = true := fun q => c4 (by rw [if_pos q])
    refine x_seq ?_
    refine x_draw [(b2, 0, _)] 4 mixed rfl (sc_own sc_end) (fun hS => ?_)
    refine d_take 0 rfl rfl (by kernel_rfl) (by kernel_rfl) (by kernel_rfl) rfl hS (v_load Tryz.isAgg3 rfl (cell_sc0 (k := 0) rfl rfl)) ?_
    refine d_take 1 rfl rfl (by kernel_rfl) (by kernel_rfl) (by kernel_rfl) rfl hS (v_assign rfl) ?_
    refine d_take 2 rfl rfl (by kernel_rfl) (by kernel_rfl) (by kernel_rfl) rfl hS (v_assign rfl) ?_
    refine d_take 3 rfl rfl (by kernel_rfl) (by kernel_rfl) (by kernel_rfl) rfl hS (v_assign rfl) ?_
    refine d_done (by kernel_rfl) ?_; clear hS
    refine n_then (x_ret (r_block (r_then (x_done (.inl rfl) (.cons (r_tmp rfl) (.cons (r_tmp rfl) (.cons (r_tmp rfl) .nil))) ?_))))
    refine ⟨_, ⟨?_, rfl⟩, inferInstance⟩
    rw [hdR, if_neg ho, if_neg ho]; rfl
  · intro c4
    have ho : ownB fr.length pg sa 4 = true := Decidable.byContradiction fun q => c4 (by rw [if_neg q]; decide)
    rw [if_pos ho]
    refine x_seq (x_region (s_val rfl (v_move rfl) (s_val rfl (v_move rfl) (s_val rfl (v_nilCheck rfl) ?_))))
    refine s_val rfl (v_fieldAddr rfl Tryz.underlying196 rfl Tryz.sizeOf73 rfl (by first | exact Nat.zero_add _ | rfl)) ?_
    refine s_val rfl (v_fieldAddr rfl Tryz.underlying73 rfl Tryz.sizeOf71 rfl (by first | exact Nat.zero_add _ | rfl)) ?_
    refine s_val rfl (v_fieldAddr rfl Tryz.underlying71 rfl Tryz.sizeOf3 rfl (by first | exact Nat.zero_add _ | rfl)) ?_
    refine s_val rfl (v_load Tryz.isAgg3 rfl (cell_own rfl)) ?_
    refine s_val rfl (v_gtr rfl rfl) (s_val rfl (v_assign rfl) (x_nil (n_then ?_)))
    refine x_if rfl ?_ ?_
    · intro c6
      dsimp only at c6
      have k6 : n < wtN last (wrdW fr pg sa) := by omega
      refine x_seq (x_region (s_val rfl (v_assign rfl) (s_val rfl (v_assign rfl) (s_val rfl (v_assign rfl) (x_nil (n_then (x_ret (r_block (r_then (x_done (.inl rfl) (.cons (r_tmp rfl) (.cons (r_tmp rfl) (.cons (r_tmp rfl) .nil))) ?_))))))))))
      refine ⟨_, ⟨?_, rfl⟩, inferInstance⟩
      simp only [hdR, if_pos ho, if_pos k6]; rfl
    · intro c6
      dsimp only at c6
      have k6 : ¬ n < wtN last (wrdW fr pg sa) := by omega
      refine x_seq (x_region (s_val rfl (v_move rfl) (s_val rfl (v_eql rfl rfl) (s_val rfl (v_assign rfl) (x_nil (n_then ?_))))))
      refine x_if rfl ?_ ?_
      · intro c8
        dsimp only at c8
        have k8 : wtN last (wrdW fr pg sa) = 0 := by omega
        refine x_seq (x_region (s_val rfl (v_assign rfl) (s_val rfl (v_assign rfl) (s_val rfl (v_assign rfl) (x_nil (n_then (x_ret (r_block (r_then (x_done (.inl rfl) (.cons (r_tmp rfl) (.cons (r_tmp rfl) (.cons (r_tmp rfl) .nil))) ?_))))))))))
        refine ⟨_, ⟨?_, rfl⟩, inferInstance⟩
        simp only [hdR, if_pos ho, if_neg k6, if_pos k8]; rfl
      · intro c8
        dsimp only at c8
        have k8 : ¬ wtN last (wrdW fr pg sa) = 0 := by omega
        refine x_skip (n_block (n_then (x_seq ?_)))
        refine x_draw [(b, 0, _)] 25 mixed rfl (sc_own sc_end) (fun hS => ?_)
        refine d_take 0 rfl rfl (by kernel_rfl) (by kernel_rfl) (by kernel_rfl) rfl hS (v_move rfl) ?_
        refine d_take 1 rfl rfl (by kernel_rfl) (by kernel_rfl) (by kernel_rfl) rfl hS (v_move rfl) ?_
        refine d_take 2 rfl rfl (by kernel_rfl) (by kernel_rfl) (by kernel_rfl) rfl hS (v_nilCheck rfl) ?_
        refine d_take 3 rfl rfl (by kernel_rfl) (by kernel_rfl) (by kernel_rfl) rfl hS (v_fieldAddr rfl Tryz.underlying196 rfl Tryz.sizeOf73 rfl (by first | exact Nat.zero_add _ | rfl)) ?_
        refine d_take 4 rfl rfl (by kernel_rfl) (by kernel_rfl) (by kernel_rfl) rfl hS (v_fieldAddr rfl Tryz.underlying73 rfl Tryz.sizeOf71 rfl (by first | exact Nat.zero_add _ | rfl)) ?_
        refine d_take 5 rfl rfl (by kernel_rfl) (by kernel_rfl) (by kernel_rfl) rfl hS (v_fieldAddr rfl Tryz.underlying71 rfl Tryz.sizeOf47 rfl (by first | exact Nat.zero_add _ | rfl)) ?_
        refine d_take 6 rfl rfl (by kernel_rfl) (by kernel_rfl) (by kernel_rfl) rfl hS (v_load Tryz.isAgg47 rfl (cell_sc0 (k := 0) rfl rfl)) ?_
        refine d_take 7 rfl rfl (by kernel_rfl) (by kernel_rfl) (by kernel_rfl) rfl hS (v_add rfl rfl (by rw [w32u (by omega)]; omega : IntKind.wrap .u32 ((sa : Int) + 4) = ((sa + 4 : Nat) : Int))) ?_
        refine d_take 8 rfl rfl (by kernel_rfl) (by kernel_rfl) (by kernel_rfl) rfl hS (v_move rfl) ?_
        refine d_take 9 rfl rfl (by kernel_rfl) (by kernel_rfl) (by kernel_rfl) rfl hS (v_nilCheck rfl) ?_
        refine d_take 10 rfl rfl (by kernel_rfl) (by kernel_rfl) (by kernel_rfl) rfl hS (v_fieldAddr rfl Tryz.underlying196 rfl Tryz.sizeOf73 rfl (by first | exact Nat.zero_add _ | rfl)) ?_
        refine d_take 11 rfl rfl (by kernel_rfl) (by kernel_rfl) (by kernel_rfl) rfl hS (v_fieldAddr rfl Tryz.underlying73 rfl Tryz.sizeOf3 rfl (by first | exact Nat.zero_add _ | rfl)) ?_
        refine d_take 12 rfl rfl (by kernel_rfl) (by kernel_rfl) (by kernel_rfl) rfl hS (v_load Tryz.isAgg3 rfl (cell_sc0 (k := 0) rfl rfl)) ?_
        refine d_take 13 rfl rfl (by kernel_rfl) (by kernel_rfl) (by kernel_rfl) rfl hS (v_move rfl) ?_
        refine d_take 14 rfl rfl (by kernel_rfl) (by kernel_rfl) (by kernel_rfl) rfl hS (v_nilCheck rfl) ?_
        refine d_take 15 rfl rfl (by kernel_rfl) (by kernel_rfl) (by kernel_rfl) rfl hS (v_fieldAddr rfl Tryz.underlying196 rfl Tryz.sizeOf73 rfl (by first | exact Nat.zero_add _ | rfl)) ?_
        refine d_take 16 rfl rfl (by kernel_rfl) (by kernel_rfl) (by kernel_rfl) rfl hS (v_fieldAddr rfl Tryz.underlying73 rfl Tryz.sizeOf71 rfl (by first | exact Nat.zero_add _ | rfl)) ?_
        refine d_take 17 rfl rfl (by kernel_rfl) (by kernel_rfl) (by kernel_rfl) rfl hS (v_fieldAddr rfl Tryz.underlying71 rfl Tryz.sizeOf3 rfl (by first | exact Nat.zero_add _ | rfl)) ?_
        refine d_take 18 rfl rfl (by kernel_rfl) (by kernel_rfl) (by kernel_rfl) rfl hS (v_load Tryz.isAgg3 rfl (cell_sc0 (k := 0) rfl rfl)) ?_
        refine d_take 19 rfl rfl (by kernel_rfl) (by kernel_rfl) (by kernel_rfl) rfl hS (v_rem rfl rfl (show ((n : Nat) : Int) ≠ 0 by omega) (tmodN last n)) ?_
        refine d_take 20 rfl rfl (by kernel_rfl) (by kernel_rfl) (by kernel_rfl) rfl hS (v_conv Tryz.underlying3 Tryz.underlying47 rfl (w32u (by omega))) ?_
        refine d_take 21 rfl rfl (by kernel_rfl) (by kernel_rfl) (by kernel_rfl) rfl hS (v_mul rfl rfl (by rw [w32u (by omega)]; omega : IntKind.wrap .u32 (4 * ((last % n : Nat) : Int)) = ((4 * (last % n) : Nat) : Int))) ?_
        refine d_take 22 rfl rfl (by kernel_rfl) (by kernel_rfl) (by kernel_rfl) rfl hS (v_add rfl rfl (by rw [w32u (by omega), hA]; omega : IntKind.wrap .u32 (((sa + 4 : Nat) : Int) + ((4 * (last % n) : Nat) : Int)) = ((hdA sa last n : Nat) : Int))) ?_
        refine d_one 23 (by kernel_rfl) rfl rfl (d_callv5 rfl Tryz.call282 rfl (qRead_spec W0 _ b1 b2 pv ps pm d 0 fr pg h hF (hdA sa last n) (by omega))) rfl ?_; clear hS
        rintro _ B_ ⟨rfl, hB_⟩
        obtain rfl := hB_.symm
        refine ⟨(sc_own sc_end), fun hS => ?_⟩
        refine d_take 24 rfl rfl (by kernel_rfl) (by kernel_rfl) (by kernel_rfl) rfl hS (v_assign rfl) ?_
        refine d_done (by kernel_rfl) ?_; clear hS
        refine n_then (x_seq (x_block (x_seq (x_region (s_val rfl (v_load Tryz.isAgg3 rfl (cell_own rfl)) ?_)))))
        refine s_val rfl (v_neq rfl rfl) (s_val rfl (v_assign rfl) (x_nil (n_then ?_)))
        refine x_if rfl ?_ ?_
        · intro c11
          have ho2 : ¬ ownB fr.length pg (hdA sa last n) 4 = true := fun q => c11 (by rw [if_pos q])
          refine x_seq ?_
          refine x_draw [(b2, 0, _)] 4 mixed rfl (sc_own sc_end) (fun hS => ?_)
          refine d_take 0 rfl rfl (by kernel_rfl) (by kernel_rfl) (by kernel_rfl) rfl hS (v_load Tryz.isAgg3 rfl (cell_sc0 (k := 0) rfl rfl)) ?_
          refine d_take 1 rfl rfl (by kernel_rfl) (by kernel_rfl) (by kernel_rfl) rfl hS (v_assign rfl) ?_
          refine d_take 2 rfl rfl (by kernel_rfl) (by kernel_rfl) (by kernel_rfl) rfl hS (v_assign rfl) ?_
          refine d_take 3 rfl rfl (by kernel_rfl) (by kernel_rfl) (by kernel_rfl) rfl hS (v_assign rfl) ?_
          refine d_done (by kernel_rfl) ?_; clear hS
          refine n_then (x_ret (r_block (r_then (x_done (.inl rfl) (.cons (r_tmp rfl) (.cons (r_tmp rfl) (.cons (r_tmp rfl) .nil))) ?_))))
          refine ⟨_, ⟨?_, rfl⟩, inferInstance⟩
          simp only [hdR, if_pos ho, if_neg k6, if_neg k8, if_neg ho2]; rfl
        · intro c11
          have ho2 : ownB fr.length pg (hdA sa last n) 4 = true := Decidable.byContradiction fun q => c11 (by rw [if_neg q]; decide)
          refine x_seq (x_region (s_val rfl (v_move rfl) (s_val rfl (v_move rfl) (s_val rfl (v_nilCheck rfl) ?_))))
          refine s_val rfl (v_fieldAddr rfl Tryz.underlying196 rfl Tryz.sizeOf73 rfl (by first | exact Nat.zero_add _ | rfl)) ?_
          refine s_val rfl (v_fieldAddr rfl Tryz.underlying73 rfl Tryz.sizeOf71 rfl (by first | exact Nat.zero_add _ | rfl)) ?_
          refine s_val rfl (v_fieldAddr rfl Tryz.underlying71 rfl Tryz.sizeOf3 rfl (by first | exact Nat.zero_add _ | rfl)) ?_
          refine s_val rfl (v_load Tryz.isAgg3 rfl (cell_own rfl)) ?_
          refine s_val rfl (v_conv Tryz.underlying3 Tryz.underlying47 rfl (show IntKind.wrap .u32 (n : Int) = (n : Int) from w32u (by omega))) ?_
          refine s_val rfl (v_geq rfl rfl) (s_val rfl (v_assign rfl) (x_nil (n_then ?_)))
          refine x_if rfl ?_ ?_
          · intro c13
            have k13 : n ≤ wrdW fr pg (hdA sa last n) := by omega
            refine x_seq (x_region (s_val rfl (v_assign rfl) (s_val rfl (v_assign rfl) (s_val rfl (v_assign rfl) (x_nil (n_then (x_ret (r_block (r_then (x_done (.inl rfl) (.cons (r_tmp rfl) (.cons (r_tmp rfl) (.cons (r_tmp rfl) .nil))) ?_))))))))))
            refine ⟨_, ⟨?_, rfl⟩, inferInstance⟩
            simp only [hdR, if_pos ho, if_neg k6, if_neg k8, if_pos ho2, if_pos k13]; rfl
          · intro c13
            have k13 : ¬ n ≤ wrdW fr pg (hdA sa last n) := by omega
            refine x_skip (n_block (n_then (x_seq (x_region (s_val rfl (v_move rfl) ?_)))))
            refine s_val rfl (v_conv Tryz.underlying47 Tryz.underlying3 rfl (w64 (by omega))) ?_
            refine s_val rfl (v_assign rfl) (s_val rfl (v_assign rfl) (s_val rfl (v_assign rfl) (x_nil (n_then (x_ret (x_done (.inl rfl) (.cons (r_tmp rfl) (.cons (r_tmp rfl) (.cons (r_tmp rfl) .nil))) ?_))))))
            refine ⟨_, ⟨?_, rfl⟩, inferInstance⟩
            simp only [hdR, if_pos ho, if_neg k6, if_neg k8, if_pos ho2, if_neg k13]; rfl
def nxR (fr : List Frm) (pg : List Pl) (s : QS) : Nat × Bool × Int :=
  if s.on && decide (s.br = 0) then (if (hdR fr pg s.r.avail s.last s.r.n.toNat).2.2 ≠ 0 then (0, false, (hdR fr pg s.r.avail s.last s.r.n.toNat).2.2) else hdR fr pg s.r.avail s.last s.r.n.toNat) else (0, false, s.br)
def nxS (fr : List Frm) (pg : List Pl) (s : QS) : QS :=
  if s.on && decide (s.br = 0) then (if (hdR fr pg s.r.avail s.last s.r.n.toNat).2.2 ≠ 0 then { s with br := (hdR fr pg s.r.avail s.last s.r.n.toNat).2.2 } else if (hdR fr pg s.r.avail s.last s.r.n.toNat).2.1 then { s with last := (s.last + 1) % 65536 } else s) else s
structure QOk (s : QS) : Prop where
  n : s.on = true → s.r.n = 2 ∨ s.r.n = 4 ∨ s.r.n = 8
  av : s.on = true → s.r.avail ≤ 1000
  us : s.on = true → s.r.used ≤ 1000
  last : s.last < 65536
  put : s.put < 65536
theorem qNext_spec (W0 : World) (R : List HP) (b pv ps pm d : Nat) (fr : List Frm) (pg : List Pl) (h : Pgs pg) (hF : Frs fr) (s : QS) (hs : QOk s) :
    Spec Tryz.prog W0 209 [.pointer (some ⟨b, 0, none⟩), .pointer (some ⟨pv, 0, none⟩)] (pt b (qO true s) :: vwW pv ps pm d fr pg R)
      (fun v B => v = .tuple #[.int .i64 ((nxR fr pg s).1 : Nat), .bool (nxR fr pg s).2.1, .int .i64 (nxR fr pg s).2.2] ∧ B = pt b (qO true (nxS fr pg s)) :: vwW pv ps pm d fr pg R) := by
  obtain ⟨⟨sd, sa, su, sn⟩, on, br, last, put⟩ := s
  by_cases hu : (on && decide (br = 0)) = true
  · have hu' : on = true ∧ br = 0 := by simpa using hu
    have hon : on = true := hu'.1
    have hN := hs.n hon
    obtain ⟨n, rfl⟩ : ∃ n : Nat, sn = (n : Int) := ⟨sn.toNat, by dsimp only at hN; omega⟩
    have hn : n = 2 ∨ n = 4 ∨ n = 8 := by dsimp only at hN; omega
    have ha : sa ≤ 1000 := hs.av hon
    have hl : last < 65536 := hs.last
    obtain ⟨r, hr⟩ : ∃ r, hdR fr pg sa last n = r := ⟨_, rfl⟩
    simp only [nxR, nxS, if_pos hu, Int.toNat_natCast, hr]
    refine spec_body Tryz.func209 Tryz.ntmps209 rfl rfl ?_
    refine x_seq (x_region (s_val rfl (v_assign rfl) (s_val rfl (v_assign rfl) (s_val rfl (v_assign rfl) (x_nil (n_then (x_seq (x_block (x_seq (x_region (s_val rfl (v_move rfl) (s_do rfl (d_call1 Tryz.call118 rfl (qNone_spec W0 _ b true ⟨⟨sd, sa, su, n⟩, on, br, last, put⟩)) ?_))))))))))))
    rintro _ B_ ⟨rfl, hB_⟩
    obtain rfl := hB_.symm
    refine s_val rfl (v_assign rfl) (x_nil (n_then ?_))
    refine x_if rfl ?_ ?_
    · intro c1
      exact absurd c1 (by decide)
    · intro c1
      refine x_seq (x_region (s_val rfl (v_move rfl) (s_do rfl (d_call1 Tryz.call247 rfl (qUsable_spec W0 _ b true ⟨⟨sd, sa, su, n⟩, on, br, last, put⟩)) ?_)))
      rintro _ B_ ⟨rfl, hB_⟩
      obtain rfl := hB_.symm
      refine s_val rfl (v_not rfl) (s_val rfl (v_assign rfl) (x_nil (n_then ?_)))
      refine x_if rfl ?_ ?_
      · intro c3
        exact absurd hu' c3
      · intro c3
        refine x_skip (n_block (n_then (x_seq (x_region (s_val rfl (v_move rfl) (s_val rfl (v_move rfl) (s_do rfl (d_call4 Tryz.call261 rfl (qHead_spec W0 _ b pv ps pm d fr pg h hF sd sa su n last put on br hn ha hl)) ?_)))))))
        rintro _ B_ ⟨rfl, hB_⟩
        obtain rfl := hB_.symm
        rw [hr]
        refine s_val rfl (v_move rfl) (s_val rfl (v_extract rfl rfl) (s_val rfl (v_extract rfl rfl) (s_val rfl (v_extract rfl rfl) (s_val rfl (v_assign rfl) (s_val rfl (v_assign rfl) (s_val rfl (v_assign rfl) (x_nil (n_then (x_seq (x_seq (x_region (s_val rfl (v_move rfl) (s_val rfl (v_neq rfl rfl) (x_nil (n_then ?_)))))))))))))))
        refine x_if rfl ?_ ?_
        · intro c6
          rw [if_pos c6, if_pos c6]
          refine x_seq (x_region (s_val rfl (v_assign rfl) (x_nil (n_then (x_seq (x_region (s_val rfl (v_move rfl) (s_val rfl (v_move rfl) (s_val rfl (v_move rfl) (s_do rfl (d_callv1 rfl Tryz.call211 rfl (qBreaks_spec W0 _ b true ⟨⟨sd, sa, su, n⟩, on, br, last, put⟩ r.2.2)) ?_))))))))))
          rintro _ B_ ⟨rfl, hB_⟩
          obtain rfl := hB_.symm
          refine s_val rfl (v_assign rfl) (s_val rfl (v_assign rfl) (s_val rfl (v_assign rfl) (x_nil (n_then (x_ret (r_then (x_done (.inl rfl) (.cons (r_tmp rfl) (.cons (r_tmp rfl) (.cons (r_tmp rfl) .nil))) ?_)))))))
          exact ⟨_, ⟨rfl, rfl⟩, inferInstance⟩
        · intro c6
          rw [if_neg c6, if_neg c6]
          refine x_skip (n_then (x_seq (x_seq (x_region (s_val rfl (v_move rfl) (x_nil (n_then ?_)))))))
          refine x_if rfl ?_ ?_
          · intro c9
            rw [if_pos c9]
            refine x_region (s_val rfl (v_move rfl) (s_val rfl (v_move rfl) (s_val rfl (v_nilCheck rfl) ?_)))
            refine s_val rfl (v_fieldAddr rfl Tryz.underlying196 rfl Tryz.sizeOf73 rfl (by first | exact Nat.zero_add _ | rfl)) ?_
            refine s_val rfl (v_fieldAddr rfl Tryz.underlying73 rfl Tryz.sizeOf3 rfl (by first | exact Nat.zero_add _ | rfl)) ?_
            refine s_val rfl (v_load Tryz.isAgg3 rfl (cell_own rfl)) ?_
            refine s_do rfl (d_call Tryz.call249 rfl (qOne_spec W0 _ last hl)) ?_
            rintro _ B_ ⟨rfl, hB_⟩
            obtain rfl := hB_.symm
            refine s_val rfl (v_nilCheck rfl) ?_
            refine s_val rfl (v_fieldAddr rfl Tryz.underlying196 rfl Tryz.sizeOf73 rfl (by first | exact Nat.zero_add _ | rfl)) ?_
            refine s_val rfl (v_fieldAddr rfl Tryz.underlying73 rfl Tryz.sizeOf3 rfl (by first | exact Nat.zero_add _ | rfl)) ?_
            refine s_do0 (d_store Tryz.sizeOf3 rfl rfl rfl (Nat.le_of_ble_eq_true rfl) SetL.eq) ?_
            rintro _ _ rfl
            refine x_nil (n_then (x_seq (x_region (s_val rfl (v_move rfl) (s_val rfl (v_move rfl) (s_val rfl (v_assign rfl) (s_val rfl (v_assign rfl) (s_val rfl (v_assign rfl) (x_nil (n_then (x_ret (x_done (.inl rfl) (.cons (r_tmp rfl) (.cons (r_tmp rfl) (.cons (r_tmp rfl) .nil))) ?_))))))))))))
            refine ⟨_, ⟨?_, rfl⟩, inferInstance⟩
            have hz : r.2.2 = 0 := Decidable.not_not.1 c6
            rw [hz]; rfl
          · intro c9
            rw [if_neg c9]
            refine x_skip (n_then (x_seq (x_region (s_val rfl (v_move rfl) (s_val rfl (v_move rfl) (s_val rfl (v_assign rfl) (s_val rfl (v_assign rfl) (s_val rfl (v_assign rfl) (x_nil (n_then (x_ret (x_done (.inl rfl) (.cons (r_tmp rfl) (.cons (r_tmp rfl) (.cons (r_tmp rfl) .nil))) ?_))))))))))))
            refine ⟨_, ⟨?_, rfl⟩, inferInstance⟩
            have hz : r.2.2 = 0 := Decidable.not_not.1 c6
            rw [hz]; rfl
  · have hu' : ¬ (on = true ∧ br = 0) := by simpa using hu
    simp only [nxR, nxS, if_neg hu]
    refine spec_body Tryz.func209 Tryz.ntmps209 rfl rfl ?_
    refine x_seq (x_region (s_val rfl (v_assign rfl) (s_val rfl (v_assign rfl) (s_val rfl (v_assign rfl) (x_nil (n_then (x_seq (x_block (x_seq (x_region (s_val rfl (v_move rfl) (s_do rfl (d_call1 Tryz.call118 rfl (qNone_spec W0 _ b true ⟨⟨sd, sa, su, sn⟩, on, br, last, put⟩)) ?_))))))))))))
    rintro _ B_ ⟨rfl, hB_⟩
    obtain rfl := hB_.symm
    refine s_val rfl (v_assign rfl) (x_nil (n_then ?_))
    refine x_if rfl ?_ ?_
    · intro c1
      exact absurd c1 (by decide)
    · intro c1
      refine x_seq (x_region (s_val rfl (v_move rfl) (s_do rfl (d_call1 Tryz.call247 rfl (qUsable_spec W0 _ b true ⟨⟨sd, sa, su, sn⟩, on, br, last, put⟩)) ?_)))
      rintro _ B_ ⟨rfl, hB_⟩
      obtain rfl := hB_.symm
      refine s_val rfl (v_not rfl) (s_val rfl (v_assign rfl) (x_nil (n_then ?_)))
      refine x_if rfl ?_ ?_
      · intro c3
        refine x_seq ?_
        refine x_draw [(b, 0, _)] 8 mixed rfl (sc_own sc_end) (fun hS => ?_)
        refine d_take 0 rfl rfl (by kernel_rfl) (by kernel_rfl) (by kernel_rfl) rfl hS (v_move rfl) ?_
        refine d_take 1 rfl rfl (by kernel_rfl) (by kernel_rfl) (by kernel_rfl) rfl hS (v_nilCheck rfl) ?_
        refine d_take 2 rfl rfl (by kernel_rfl) (by kernel_rfl) (by kernel_rfl) rfl hS (v_fieldAddr rfl Tryz.underlying196 rfl Tryz.sizeOf73 rfl (by first | exact Nat.zero_add _ | rfl)) ?_
        refine d_take 3 rfl rfl (by kernel_rfl) (by kernel_rfl) (by kernel_rfl) rfl hS (v_fieldAddr rfl Tryz.underlying73 rfl Tryz.sizeOf3 rfl (by first | exact Nat.zero_add _ | rfl)) ?_
        refine d_take 4 rfl rfl (by kernel_rfl) (by kernel_rfl) (by kernel_rfl) rfl hS (v_load Tryz.isAgg3 rfl (cell_sc0 (k := 0) rfl rfl)) ?_
        refine d_take 5 rfl rfl (by kernel_rfl) (by kernel_rfl) (by kernel_rfl) rfl hS (v_assign rfl) ?_
        refine d_take 6 rfl rfl (by kernel_rfl) (by kernel_rfl) (by kernel_rfl) rfl hS (v_assign rfl) ?_
        refine d_take 7 rfl rfl (by kernel_rfl) (by kernel_rfl) (by kernel_rfl) rfl hS (v_assign rfl) ?_
        refine d_done (by kernel_rfl) ?_; clear hS
        refine n_then (x_ret (r_block (r_then (x_done (.inl rfl) (.cons (r_tmp rfl) (.cons (r_tmp rfl) (.cons (r_tmp rfl) .nil))) ?_))))
        exact ⟨_, ⟨rfl, rfl⟩, inferInstance⟩
      · intro c3
        exact absurd (Decidable.not_not.1 c3) hu'
end Go.Proofs.YtlnmofhehcilhaaGreat
namespace Go.Proofs.YtlnmofhehcilhaaGreat
open Go.RowKit
set_option linter.unusedSimpArgs false
set_option linter.unusedVariables false
set_option maxRecDepth 20000
theorem fit_no {len : Nat} {pg : List Pl} {r : Rg3} {i : Nat} (hi : i < 3) (h : ¬ ownB len pg (rgAt r i) (qSz i r.n) = true) : fitB len pg r = false := by
  have h3 : i = 0 ∨ i = 1 ∨ i = 2 := by omega
  have h' : ownB len pg (rgAt r i) (qSz i r.n) = false := by simpa using h
  rw [fitB]
  rcases h3 with rfl | rfl | rfl
  · rw [show ownB len pg r.desc (qSz 0 r.n) = false from h']; simp
  · rw [show ownB len pg r.avail (qSz 1 r.n) = false from h']; simp
  · rw [show ownB len pg r.used (qSz 2 r.n) = false from h']; simp
theorem fit_yes {len : Nat} {pg : List Pl} {r : Rg3} (h : ∀ j, j < 3 → ownB len pg (rgAt r j) (qSz j r.n) = true) : fitB len pg r = rgtB r := by
  rw [fitB, show ownB len pg r.desc (qSz 0 r.n) = true from h 0 (by decide), show ownB len pg r.avail (qSz 1 r.n) = true from h 1 (by decide), show ownB len pg r.used (qSz 2 r.n) = true from h 2 (by decide)]; rfl
theorem rgAt_lt {r : Rg3} (hr : r.ok) {i : Nat} (hi : i < 3) : rgAt r i < 4294967296 := by
  have h3 : i = 0 ∨ i = 1 ∨ i = 2 := by omega
  rcases h3 with rfl | rfl | rfl
  · exact hr.desc
  · exact hr.avail
  · exact hr.used
theorem qFits_spec (W0 : World) (R : List HP) (pv ps pm d : Nat) (fr : List Frm) (pg : List Pl) (h : Pgs pg) (r : Rg3) (hr : r.ok) :
    Spec Tryz.prog W0 181 [.pointer (some ⟨pv, 0, none⟩), .agg (rgV r).toArray] (vwW pv ps pm d fr pg R) (fun v B => v = .bool (fitB fr.length pg r) ∧ B = vwW pv ps pm d fr pg R) := by
  refine spec_body Tryz.func181 Tryz.ntmps181 rfl rfl ?_
  refine x_seq (x_region (s_do rfl (d_boxA rfl) ?_))
  rintro _ _ ⟨b1, rfl, rfl⟩
  refine s_val rfl (v_assign rfl) (x_nil (n_then (x_seq (x_seq (x_region ?_)))))
  refine s_val rfl (v_fieldAddr rfl Tryz.underlying71 rfl Tryz.sizeOf47 rfl (by first | exact Nat.zero_add _ | rfl)) ?_
  refine s_val rfl (v_load Tryz.isAgg47 rfl (cell_own rfl)) ?_
  refine s_val rfl (v_fieldAddr rfl Tryz.underlying71 rfl Tryz.sizeOf47 rfl (by first | exact Nat.zero_add _ | rfl)) ?_
  refine s_val rfl (v_load Tryz.isAgg47 rfl (cell_own rfl)) ?_
  refine s_val rfl (v_fieldAddr rfl Tryz.underlying71 rfl Tryz.sizeOf47 rfl (by first | exact Nat.zero_add _ | rfl)) ?_
  refine s_val rfl (v_load Tryz.isAgg47 rfl (cell_own rfl)) ?_
  refine s_val rfl (v_buildArr Tryz.underlying331 Tryz.sizeOf47 Tryz.zeroValue331 rfl rfl rfl rfl) ?_
  refine s_val rfl (v_move rfl) (x_nil (n_then (x_block ?_)))
  refine x_loop (fun i : Nat => i ≤ 3 ∧ ∀ j, j < i → ownB fr.length pg (rgAt r j) (qSz j r.n) = true) (fun i => [(0, .pointer (some ⟨pv, 0, none⟩)), (3, .pointer (some ⟨b1, 0, none⟩)), (13, .agg ((List.range 3).map fun j => wV (rgAt r j)).toArray), (14, .int .i64 i)]) (fun i => pt b1 (cob (rgV r) 71) :: vwW pv ps pm d fr pg R) (fun i => 3 - i) 0 ?_ ?_ ?_ ?_
  · exact ⟨Nat.zero_le _, fun j hj => by omega⟩
  · repeat (first | exact sub_nil | refine sub_cons rfl ?_)
  · exact inferInstance
  · intro i ⟨hi, hI⟩
    refine x_seq (x_region (s_val rfl (v_lss rfl rfl) (x_nil (n_then (x_seq ?_)))))
    refine x_if rfl ?_ ?_
    · intro c2
      refine x_skip (n_then (x_seq (x_block (x_seq (x_region (s_val rfl (v_move rfl) ?_))))))
      refine s_val rfl (v_index Tryz.underlying331 Tryz.sizeOf47 Tryz.isAgg47 rfl rfl rfl (by omega) (range_get (by omega))) ?_
      refine s_val rfl (v_assign rfl) (s_val rfl (v_assign rfl) (x_nil (n_then (x_seq (x_region (s_val rfl (v_move rfl) (s_val rfl (v_move rfl) (s_val rfl (v_move rfl) ?_))))))))
      refine s_val rfl (v_fieldAddr rfl Tryz.underlying71 rfl Tryz.sizeOf3 rfl (by first | exact Nat.zero_add _ | rfl)) ?_
      refine s_val rfl (v_load Tryz.isAgg3 rfl (cell_own rfl)) ?_
      refine s_do rfl (d_call Tryz.call244 rfl (dsSize_spec W0 _ i r.n)) ?_
      rintro _ B_ ⟨rfl, hB_⟩
      obtain rfl := hB_.symm
      refine s_do rfl (d_call3 Tryz.call132 rfl (viOwn_spec W0 _ pv ps pm d fr pg h (rgAt r i) (rgAt_lt hr (by omega)) (qSz i r.n))) ?_
      rintro _ B_ ⟨rfl, hB_⟩
      obtain rfl := hB_.symm
      refine s_val rfl (v_not rfl) (x_nil (n_then ?_))
      refine x_if rfl ?_ ?_
      · intro c4
        refine x_seq (x_region (s_val rfl (v_assign rfl) (x_nil (n_then (x_ret (r_block (r_then (r_then (r_block (r_then (x_done (.inl rfl) (.cons (r_tmp rfl) .nil) ?_)))))))))))
        refine ⟨_, ⟨?_, rfl⟩, inferInstance⟩
        rw [fit_no (by omega) c4]; rfl
      · intro c4
        have ho := Decidable.not_not.1 c4
        refine x_skip (n_block (n_then (x_region ?_)))
        refine s_val rfl (v_add rfl rfl (by first | exact w64 (by omega) | rfl)) ?_
        refine s_val rfl (v_move rfl) (x_nil (n_then ?_))
        refine inv_intro (i + 1) ?_ ?_ ?_ ?_
        · exact ⟨by omega, fun m hm => by
            rcases Nat.lt_or_ge m i with q | q
            · exact hI m q
            · rw [show m = i by omega]; exact ho⟩
        · omega
        · repeat (first | exact sub_nil | refine sub_cons rfl ?_)
        · exact inferInstance
    · intro c2
      refine x_exit (e_then (e_then (e_block (n_then (x_seq ?_)))))
      obtain rfl : i = 3 := by omega
      refine x_region (s_val rfl (v_loadAll Tryz.isAgg71 Tryz.sizeOf71 rfl rfl) ?_)
      refine s_do rfl (d_call Tryz.call245 rfl (dsRight_spec W0 _ r)) ?_
      rintro _ B_ ⟨rfl, hB_⟩
      obtain rfl := hB_.symm
      refine s_val rfl (v_assign rfl) (x_nil (n_then (x_ret (x_done (.inl rfl) (.cons (r_tmp rfl) .nil) ?_))))
      refine ⟨_, ⟨?_, rfl⟩, inferInstance⟩
      rw [fit_yes hI]; rfl
theorem qLay_spec (W0 : World) (R : List HP) (b pv ps pm d : Nat) (fr : List Frm) (pg : List Pl) (h : Pgs pg) (s : QS) (r : Rg3) (hr : r.ok) (hf : fitB fr.length pg r = true) :
    Spec Tryz.prog W0 92 [.pointer (some ⟨b, 0, none⟩), .pointer (some ⟨pv, 0, none⟩), .agg (rgV r).toArray] (pt b (qO true s) :: vwW pv ps pm d fr pg R)
      (fun v B => v = .int .i64 0 ∧ B = pt b (qO true ⟨r, true, 0, 0, 0⟩) :: vwW pv ps pm d fr pg R) := by
  refine spec_body Tryz.func92 Tryz.ntmps92 rfl rfl ?_
  refine x_seq (x_region (s_do rfl (d_boxA rfl) ?_))
  rintro _ _ ⟨b1, rfl, rfl⟩
  refine s_val rfl (v_assign rfl) (x_nil (n_then (x_seq (x_block (x_seq (x_region (s_val rfl (v_move rfl) (s_do rfl (d_call1 Tryz.call118 rfl (qNone_spec W0 _ b true s)) ?_))))))))
  rintro _ B_ ⟨rfl, hB_⟩
  obtain rfl := hB_.symm
  refine s_val rfl (v_assign rfl) (x_nil (n_then ?_))
  refine x_if rfl ?_ ?_
  · intro c1
    exact absurd c1 (by decide)
  · intro c1
    refine x_seq (x_region (s_val rfl (v_move rfl) (s_val rfl (v_loadAll Tryz.isAgg71 Tryz.sizeOf71 rfl rfl) ?_)))
    refine s_do rfl (d_call3 Tryz.call181 rfl (qFits_spec W0 _ pv ps pm d fr pg h r hr)) ?_
    rintro _ B_ ⟨rfl, hB_⟩
    obtain rfl := hB_.symm
    refine s_val rfl (v_not rfl) (s_val rfl (v_assign rfl) (x_nil (n_then ?_)))
    refine x_if rfl ?_ ?_
    · intro c3
      exact absurd hf c3
    · intro c3
      refine x_skip (n_block (n_then (x_seq (x_region (s_val rfl (v_move rfl) (s_val rfl (v_loadAll Tryz.isAgg71 Tryz.sizeOf71 rfl rfl) ?_))))))
      refine s_val rfl (v_build Tryz.underlying73 Tryz.zeroValue73 (sized_cons Tryz.sizeOf71 (sized_cons Tryz.sizeOf4 (sized_cons Tryz.sizeOf3 (sized_cons Tryz.sizeOf3 (sized_cons Tryz.sizeOf3 sized_nil))))) (fil_agg rfl Tryz.sizeOf71 rfl rfl (Nat.le_of_ble_eq_true rfl) SetRL.eq (fil_scal rfl Tryz.sizeOf4 rfl rfl (Nat.le_of_ble_eq_true rfl) SetL.eq fil_nil))) ?_
      refine s_val rfl (v_nilCheck rfl) ?_
      refine s_val rfl (v_fieldAddr rfl Tryz.underlying196 rfl Tryz.sizeOf73 rfl (by first | exact Nat.zero_add _ | rfl)) ?_
      refine s_do0 (d_storeAgg Tryz.sizeOf73 rfl rfl rfl rfl (Nat.le_of_ble_eq_true rfl) SetRL.eq) ?_
      rintro _ _ rfl
      refine x_nil (n_then (x_seq (x_region (s_val rfl (v_assign rfl) (x_nil (n_then (x_ret (x_done (.inl rfl) (.cons (r_tmp rfl) .nil) ?_))))))))
      exact ⟨_, ⟨rfl, rfl⟩, inferInstance⟩
def pg23 : Nat → List Pl
  | 0 => List.replicate 12 (0, 0)
  | i + 1 => setP (pg23 i) i ((i : Int), 3)
theorem pg23_ok : ∀ i, Pgs (pg23 i)
  | 0 => pgz
  | i + 1 => by rw [pg23]; exact setP_ok (pg23_ok i)
end Go.Proofs.YtlnmofhehcilhaaGreat
namespace Go.Proofs.YtlnmofhehcilhaaGreat
open Go.RowKit
set_option linter.unusedSimpArgs false
set_option linter.unusedVariables false
set_option maxRecDepth 20000
def u32N (x : Int) : Nat := (x % 4294967296).toNat
theorem u32N_lt (x : Int) : u32N x < 4294967296 := by unfold u32N; omega
theorem wrap_u32N (x : Int) : IntKind.wrap .u32 x = ((u32N x : Nat) : Int) := by
  simp only [IntKind.wrap, IntKind.bits, IntKind.signed, u32N]; simp; omega
structure DnR where
  c : Int
  s : QS
  fr : List Frm
  d : Nat
def dnA (s : QS) : Nat := s.r.used + 4 + 8 * (s.put % s.r.n.toNat)
abbrev dnF1 (fr : List Frm) (pg : List Pl) (s : QS) (h : Nat) : List Frm := wrF fr pg (dnA s) (bytesL [h])
abbrev dnD1 (fr : List Frm) (pg : List Pl) (d : Nat) (s : QS) : Nat := wrE fr pg (dnA s) d 4
abbrev dnF2 (fr : List Frm) (pg : List Pl) (s : QS) (h n : Nat) : List Frm := wrF (dnF1 fr pg s h) pg (dnA s + 4) (bytesL [n])
abbrev dnD2 (fr : List Frm) (pg : List Pl) (d : Nat) (s : QS) (h : Nat) : Nat := wrE (dnF1 fr pg s h) pg (dnA s + 4) (dnD1 fr pg d s) 4
abbrev dnF3 (fr : List Frm) (pg : List Pl) (s : QS) (h n : Nat) : List Frm := wrF (dnF2 fr pg s h n) pg s.r.used (bytesL [(s.put + 1) % 65536])
abbrev dnD3 (fr : List Frm) (pg : List Pl) (d : Nat) (s : QS) (h n : Nat) : Nat := wrE (dnF2 fr pg s h n) pg s.r.used (dnD2 fr pg d s h) 4
def dnX (fr : List Frm) (pg : List Pl) (d : Nat) (s : QS) (h n : Nat) : DnR :=
  if s.on && decide (s.br = 0) then
    (if ownB fr.length pg (dnA s) 4 then
      (if ownB fr.length pg (dnA s + 4) 4 then
        (if ownB fr.length pg s.r.used 4 then ⟨0, { s with put := (s.put + 1) % 65536 }, dnF3 fr pg s h n, dnD3 fr pg d s h n⟩
          else ⟨5, { s with put := (s.put + 1) % 65536, br := 5 }, dnF3 fr pg s h n, dnD3 fr pg d s h n⟩)
        else ⟨5, { s with br := 5 }, dnF2 fr pg s h n, dnD2 fr pg d s h⟩)
      else ⟨5, { s with br := 5 }, dnF1 fr pg s h, dnD1 fr pg d s⟩)
    else ⟨s.br, s, fr, d⟩
theorem dnF1_ok {fr : List Frm} (hF : Frs fr) (pg : List Pl) (s : QS) (h : Nat) : Frs (dnF1 fr pg s h) ∧ (dnF1 fr pg s h).length = fr.length := wrF_ok hF
theorem dnF2_ok {fr : List Frm} (hF : Frs fr) (pg : List Pl) (s : QS) (h n : Nat) : Frs (dnF2 fr pg s h n) ∧ (dnF2 fr pg s h n).length = fr.length := by
  obtain ⟨h1, h2⟩ := dnF1_ok hF pg s h
  exact ⟨(wrF_ok h1).1, (wrF_ok h1).2.trans h2⟩
theorem dnF3_ok {fr : List Frm} (hF : Frs fr) (pg : List Pl) (s : QS) (h n : Nat) : Frs (dnF3 fr pg s h n) ∧ (dnF3 fr pg s h n).length = fr.length := by
  obtain ⟨h1, h2⟩ := dnF2_ok hF pg s h n
  exact ⟨(wrF_ok h1).1, (wrF_ok h1).2.trans h2⟩
theorem dnD_lt {fr : List Frm} {pg : List Pl} {d : Nat} {s : QS} {h n : Nat} (hd : d < 4096) : dnD1 fr pg d s < 4096 ∧ dnD2 fr pg d s h < 4096 ∧ dnD3 fr pg d s h n < 4096 :=
  ⟨wrE_lt hd, wrE_lt (wrE_lt hd), wrE_lt (wrE_lt (wrE_lt hd))⟩
theorem dnX_ok {fr : List Frm} {pg : List Pl} {d : Nat} {s : QS} {h n : Nat} (hF : Frs fr) (hd : d < 4096) (hs : QOk s) :
    Frs (dnX fr pg d s h n).fr ∧ (dnX fr pg d s h n).fr.length = fr.length ∧ (dnX fr pg d s h n).d < 4096 ∧ QOk (dnX fr pg d s h n).s := by
  obtain ⟨d1, d2, d3⟩ := dnD_lt (fr := fr) (pg := pg) (s := s) (h := h) (n := n) hd
  obtain ⟨f1, l1⟩ := dnF1_ok hF pg s h
  obtain ⟨f2, l2⟩ := dnF2_ok hF pg s h n
  obtain ⟨f3, l3⟩ := dnF3_ok hF pg s h n
  have hb : ∀ b, QOk { s with br := b } := fun b => ⟨hs.n, hs.av, hs.us, hs.last, hs.put⟩
  have hp : ∀ b, QOk { s with put := (s.put + 1) % 65536, br := b } := fun b => ⟨hs.n, hs.av, hs.us, hs.last, Nat.mod_lt _ (by decide)⟩
  unfold dnX
  split
  · split
    · split
      · split
        · exact ⟨f3, l3, d3, hp _⟩
        · exact ⟨f3, l3, d3, hp _⟩
      · exact ⟨f2, l2, d2, hb _⟩
    · exact ⟨f1, l1, d1, hb _⟩
  · exact ⟨hF, rfl, hd, hs⟩
theorem dnX_cases (fr : List Frm) (pg : List Pl) (d sd sa su n last put hh nn : Nat) :
    (¬ ownB fr.length pg (dnA ⟨⟨sd, sa, su, n⟩, true, 0, last, put⟩) 4 = true → dnX fr pg d ⟨⟨sd, sa, su, n⟩, true, 0, last, put⟩ hh nn = ⟨5, ⟨⟨sd, sa, su, n⟩, true, 5, last, put⟩, dnF1 fr pg ⟨⟨sd, sa, su, n⟩, true, 0, last, put⟩ hh, dnD1 fr pg d ⟨⟨sd, sa, su, n⟩, true, 0, last, put⟩⟩) ∧
    (ownB fr.length pg (dnA ⟨⟨sd, sa, su, n⟩, true, 0, last, put⟩) 4 = true → ¬ ownB fr.length pg (dnA ⟨⟨sd, sa, su, n⟩, true, 0, last, put⟩ + 4) 4 = true → dnX fr pg d ⟨⟨sd, sa, su, n⟩, true, 0, last, put⟩ hh nn = ⟨5, ⟨⟨sd, sa, su, n⟩, true, 5, last, put⟩, dnF2 fr pg ⟨⟨sd, sa, su, n⟩, true, 0, last, put⟩ hh nn, dnD2 fr pg d ⟨⟨sd, sa, su, n⟩, true, 0, last, put⟩ hh⟩) ∧
    (ownB fr.length pg (dnA ⟨⟨sd, sa, su, n⟩, true, 0, last, put⟩) 4 = true → ownB fr.length pg (dnA ⟨⟨sd, sa, su, n⟩, true, 0, last, put⟩ + 4) 4 = true → ∀ c : Int, c = (if ownB fr.length pg su 4 = true then 0 else 5) → dnX fr pg d ⟨⟨sd, sa, su, n⟩, true, 0, last, put⟩ hh nn = ⟨c, ⟨⟨sd, sa, su, n⟩, true, c, last, (put + 1) % 65536⟩, dnF3 fr pg ⟨⟨sd, sa, su, n⟩, true, 0, last, put⟩ hh nn, dnD3 fr pg d ⟨⟨sd, sa, su, n⟩, true, 0, last, put⟩ hh nn⟩) := by
  refine ⟨fun o1 => ?_, fun o1 o2 => ?_, fun o1 o2 c hc => ?_⟩
  · rw [dnX, if_pos (by rfl), if_neg o1]
  · rw [dnX, if_pos (by rfl), if_pos o1, if_neg o2]
  · subst hc
    rw [dnX, if_pos (by rfl), if_pos o1, if_pos o2]
    by_cases q : ownB fr.length pg su 4 = true
    · rw [if_pos q, if_pos q]
    · rw [if_neg q, if_neg q]
theorem qDone_spec (W0 : World) (R : List HP) (b pv ps pm d : Nat) (fr : List Frm) (pg : List Pl) (h : Pgs pg) (hF : Frs fr) (hd : d < 4096) (s : QS) (hs : QOk s) (x y : Int) :
    Spec Tryz.prog W0 185 [.pointer (some ⟨b, 0, none⟩), .pointer (some ⟨pv, 0, none⟩), .int .i64 x, .int .i64 y] (pt b (qO true s) :: vwW pv ps pm d fr pg R)
      (fun v B => v = .int .i64 (dnX fr pg d s (u32N x) (u32N y)).c ∧ B = pt b (qO true (dnX fr pg d s (u32N x) (u32N y)).s) :: vwW pv ps pm (dnX fr pg d s (u32N x) (u32N y)).d (dnX fr pg d s (u32N x) (u32N y)).fr pg R) := by
  obtain ⟨⟨sd, sa, su, sn⟩, on, br, last, put⟩ := s
  by_cases hu : (on && decide (br = 0)) = true
  · have hu' : on = true ∧ br = 0 := by simpa using hu
    obtain ⟨rfl, rfl⟩ := hu'
    have hN := hs.n rfl
    obtain ⟨n, rfl⟩ : ∃ n : Nat, sn = (n : Int) := ⟨sn.toNat, by dsimp only at hN; omega⟩
    have hn : n = 2 ∨ n = 4 ∨ n = 8 := by dsimp only at hN; omega
    have ha : su ≤ 1000 := hs.us rfl
    have hp : put < 65536 := hs.put
    have hm := Nat.mod_lt put (show 0 < n by omega)
    have hx := u32N_lt x
    have hy := u32N_lt y
    have hA : dnA ⟨⟨sd, sa, su, n⟩, true, 0, last, put⟩ = su + 4 + 8 * (put % n) := rfl
    obtain ⟨hX1, hX2, hX3⟩ := dnX_cases fr pg d sd sa su n last put (u32N x) (u32N y)
    obtain ⟨d1, d2, d3⟩ := dnD_lt (fr := fr) (pg := pg) (s := ⟨⟨sd, sa, su, n⟩, true, 0, last, put⟩) (h := u32N x) (n := u32N y) hd
    obtain ⟨f1, l1⟩ := dnF1_ok hF pg ⟨⟨sd, sa, su, n⟩, true, 0, last, put⟩ (u32N x)
    obtain ⟨f2, l2⟩ := dnF2_ok hF pg ⟨⟨sd, sa, su, n⟩, true, 0, last, put⟩ (u32N x) (u32N y)
    refine spec_body Tryz.func185 Tryz.ntmps185 rfl rfl ?_
    refine x_seq (x_region (s_val rfl (v_assign rfl) (x_nil (n_then (x_seq (x_block (x_seq (x_region (s_val rfl (v_move rfl) (s_do rfl (d_call1 Tryz.call118 rfl (qNone_spec W0 _ b true ⟨⟨sd, sa, su, n⟩, true, 0, last, put⟩)) ?_))))))))))
    rintro _ B_ ⟨rfl, hB_⟩
    obtain rfl := hB_.symm
    refine s_val rfl (v_assign rfl) (x_nil (n_then ?_))
    refine x_if rfl ?_ ?_
    · intro c1
      exact absurd c1 (by decide)
    · intro c1
      refine x_seq (x_region (s_val rfl (v_move rfl) (s_do rfl (d_call1 Tryz.call247 rfl (qUsable_spec W0 _ b true ⟨⟨sd, sa, su, n⟩, true, 0, last, put⟩)) ?_)))
      rintro _ B_ ⟨rfl, hB_⟩
      obtain rfl := hB_.symm
      refine s_val rfl (v_not rfl) (s_val rfl (v_assign rfl) (x_nil (n_then ?_)))
      refine x_if rfl ?_ ?_
      · intro c3
        exact absurd ⟨rfl, rfl⟩ c3
      · intro c3
        refine x_skip (n_block (n_then (x_seq ?_)))
        refine x_draw [(b, 0, _)] 23 mixed rfl (sc_own sc_end) (fun hS => ?_)
        refine d_take 0 rfl rfl (by kernel_rfl) (by kernel_rfl) (by kernel_rfl) rfl hS (v_move rfl) ?_
        refine d_take 1 rfl rfl (by kernel_rfl) (by kernel_rfl) (by kernel_rfl) rfl hS (v_nilCheck rfl) ?_
        refine d_take 2 rfl rfl (by kernel_rfl) (by kernel_rfl) (by kernel_rfl) rfl hS (v_fieldAddr rfl Tryz.underlying196 rfl Tryz.sizeOf73 rfl (by first | exact Nat.zero_add _ | rfl)) ?_
        refine d_take 3 rfl rfl (by kernel_rfl) (by kernel_rfl) (by kernel_rfl) rfl hS (v_fieldAddr rfl Tryz.underlying73 rfl Tryz.sizeOf71 rfl (by first | exact Nat.zero_add _ | rfl)) ?_
        refine d_take 4 rfl rfl (by kernel_rfl) (by kernel_rfl) (by kernel_rfl) rfl hS (v_fieldAddr rfl Tryz.underlying71 rfl Tryz.sizeOf47 rfl (by first | exact Nat.zero_add _ | rfl)) ?_
        refine d_take 5 rfl rfl (by kernel_rfl) (by kernel_rfl) (by kernel_rfl) rfl hS (v_load Tryz.isAgg47 rfl (cell_sc0 (k := 0) rfl rfl)) ?_
        refine d_take 6 rfl rfl (by kernel_rfl) (by kernel_rfl) (by kernel_rfl) rfl hS (v_add rfl rfl (by rw [w32u (by omega)]; omega : IntKind.wrap .u32 ((su : Int) + 4) = ((su + 4 : Nat) : Int))) ?_
        refine d_take 7 rfl rfl (by kernel_rfl) (by kernel_rfl) (by kernel_rfl) rfl hS (v_move rfl) ?_
        refine d_take 8 rfl rfl (by kernel_rfl) (by kernel_rfl) (by kernel_rfl) rfl hS (v_nilCheck rfl) ?_
        refine d_take 9 rfl rfl (by kernel_rfl) (by kernel_rfl) (by kernel_rfl) rfl hS (v_fieldAddr rfl Tryz.underlying196 rfl Tryz.sizeOf73 rfl (by first | exact Nat.zero_add _ | rfl)) ?_
        refine d_take 10 rfl rfl (by kernel_rfl) (by kernel_rfl) (by kernel_rfl) rfl hS (v_fieldAddr rfl Tryz.underlying73 rfl Tryz.sizeOf3 rfl (by first | exact Nat.zero_add _ | rfl)) ?_
        refine d_take 11 rfl rfl (by kernel_rfl) (by kernel_rfl) (by kernel_rfl) rfl hS (v_load Tryz.isAgg3 rfl (cell_sc0 (k := 0) rfl rfl)) ?_
        refine d_take 12 rfl rfl (by kernel_rfl) (by kernel_rfl) (by kernel_rfl) rfl hS (v_move rfl) ?_
        refine d_take 13 rfl rfl (by kernel_rfl) (by kernel_rfl) (by kernel_rfl) rfl hS (v_nilCheck rfl) ?_
        refine d_take 14 rfl rfl (by kernel_rfl) (by kernel_rfl) (by kernel_rfl) rfl hS (v_fieldAddr rfl Tryz.underlying196 rfl Tryz.sizeOf73 rfl (by first | exact Nat.zero_add _ | rfl)) ?_
        refine d_take 15 rfl rfl (by kernel_rfl) (by kernel_rfl) (by kernel_rfl) rfl hS (v_fieldAddr rfl Tryz.underlying73 rfl Tryz.sizeOf71 rfl (by first | exact Nat.zero_add _ | rfl)) ?_
        refine d_take 16 rfl rfl (by kernel_rfl) (by kernel_rfl) (by kernel_rfl) rfl hS (v_fieldAddr rfl Tryz.underlying71 rfl Tryz.sizeOf3 rfl (by first | exact Nat.zero_add _ | rfl)) ?_
        refine d_take 17 rfl rfl (by kernel_rfl) (by kernel_rfl) (by kernel_rfl) rfl hS (v_load Tryz.isAgg3 rfl (cell_sc0 (k := 0) rfl rfl)) ?_
        refine d_take 18 rfl rfl (by kernel_rfl) (by kernel_rfl) (by kernel_rfl) rfl hS (v_rem rfl rfl (show ((n : Nat) : Int) ≠ 0 by omega) (tmodN put n)) ?_
        refine d_take 19 rfl rfl (by kernel_rfl) (by kernel_rfl) (by kernel_rfl) rfl hS (v_conv Tryz.underlying3 Tryz.underlying47 rfl (w32u (by omega))) ?_
        refine d_take 20 rfl rfl (by kernel_rfl) (by kernel_rfl) (by kernel_rfl) rfl hS (v_mul rfl rfl (by rw [w32u (by omega)]; omega : IntKind.wrap .u32 (8 * ((put % n : Nat) : Int)) = ((8 * (put % n) : Nat) : Int))) ?_
        refine d_take 21 rfl rfl (by kernel_rfl) (by kernel_rfl) (by kernel_rfl) rfl hS (v_add rfl rfl (by rw [w32u (by omega), hA]; omega : IntKind.wrap .u32 (((su + 4 : Nat) : Int) + ((8 * (put % n) : Nat) : Int)) = ((dnA ⟨⟨sd, sa, su, n⟩, true, 0, last, put⟩ : Nat) : Int))) ?_
        refine d_take 22 rfl rfl (by kernel_rfl) (by kernel_rfl) (by kernel_rfl) rfl hS (v_assign rfl) ?_
        refine d_done (by kernel_rfl) ?_; clear hS
        refine n_then (x_seq (x_seq (x_region (s_val rfl (v_move rfl) (s_val rfl (v_move rfl) (s_val rfl (v_move rfl) (s_val rfl (v_conv Tryz.underlying3 Tryz.underlying47 rfl (wrap_u32N x)) ?_)))))))
        refine s_do rfl (d_call3 Tryz.call248 rfl (qPut_spec W0 _ pv ps pm d fr pg h hF hd (dnA ⟨⟨sd, sa, su, n⟩, true, 0, last, put⟩) (by omega) (u32N x) hx)) ?_
        rintro _ B_ ⟨rfl, hB_⟩
        obtain rfl := hB_.symm
        refine s_val rfl (v_not rfl) (s_val rfl (v_move rfl) ?_)
        refine s_or rfl rfl rfl ?_ ?_
        · intro g6_7
          refine s_no rfl rfl rfl rfl (s_no rfl rfl rfl rfl (s_no rfl rfl rfl rfl (s_no rfl rfl rfl rfl (s_no rfl rfl rfl rfl (s_no rfl rfl rfl rfl (s_val rfl (v_pick_t rfl rfl) (x_nil (n_then (x_ift rfl (x_seq (x_region (s_val rfl (v_move rfl) (s_do rfl (d_call1 Tryz.call211 rfl (qBreaks_spec W0 _ b true ⟨⟨sd, sa, su, n⟩, true, 0, last, put⟩ 5)) ?_)))))))))))))
          rintro _ B_ ⟨rfl, hB_⟩
          obtain rfl := hB_.symm
          refine s_val rfl (v_assign rfl) (x_nil (n_then (x_ret (r_then (x_done (.inl rfl) (.cons (r_tmp rfl) .nil) ?_)))))
          first
            | (rw [hX1 (by simp_all)]; exact ⟨_, ⟨rfl, rfl⟩, inferInstance⟩)
            | (rw [hX2 (by simp_all) (by simp_all)]; exact ⟨_, ⟨rfl, rfl⟩, inferInstance⟩)
        · intro g6_7
          refine s_val rfl (v_move rfl) (s_yes rfl rfl (s_val rfl (v_move rfl) (s_yes rfl rfl ?_)))
          refine s_val rfl (v_add rfl rfl (by rw [w32u (by omega)]; omega : IntKind.wrap .u32 (((dnA ⟨⟨sd, sa, su, n⟩, true, 0, last, put⟩ : Nat) : Int) + 4) = ((dnA ⟨⟨sd, sa, su, n⟩, true, 0, last, put⟩ + 4 : Nat) : Int))) ?_
          refine s_yes rfl rfl (s_val rfl (v_move rfl) (s_yes rfl rfl (s_val rfl (v_conv Tryz.underlying3 Tryz.underlying47 rfl (wrap_u32N y)) ?_)))
          refine s_yes rfl rfl ?_
          refine s_do rfl (d_call3 Tryz.call248 rfl (qPut_spec W0 _ pv ps pm (dnD1 fr pg d ⟨⟨sd, sa, su, n⟩, true, 0, last, put⟩) (dnF1 fr pg ⟨⟨sd, sa, su, n⟩, true, 0, last, put⟩ (u32N x)) pg h f1 d1 (dnA ⟨⟨sd, sa, su, n⟩, true, 0, last, put⟩ + 4) (by omega) (u32N y) hy)) ?_
          rintro _ B_ ⟨rfl, hB_⟩
          obtain rfl := hB_.symm
          rw [l1]
          refine s_yes rfl rfl (s_val rfl (v_not rfl) (s_val rfl (v_pick_f rfl rfl) (x_nil (n_then ?_))))
          refine x_if rfl ?_ ?_
          · intro c6
            refine x_seq (x_region (s_val rfl (v_move rfl) (s_do rfl (d_call1 Tryz.call211 rfl (qBreaks_spec W0 _ b true ⟨⟨sd, sa, su, n⟩, true, 0, last, put⟩ 5)) ?_)))
            rintro _ B_ ⟨rfl, hB_⟩
            obtain rfl := hB_.symm
            refine s_val rfl (v_assign rfl) (x_nil (n_then (x_ret (r_then (x_done (.inl rfl) (.cons (r_tmp rfl) .nil) ?_)))))
            first
              | (rw [hX1 (by simp_all)]; exact ⟨_, ⟨rfl, rfl⟩, inferInstance⟩)
              | (rw [hX2 (by simp_all) (by simp_all)]; exact ⟨_, ⟨rfl, rfl⟩, inferInstance⟩)
          · intro c6
            refine x_skip (n_then (x_seq (x_region (s_val rfl (v_move rfl) (s_val rfl (v_move rfl) (s_val rfl (v_nilCheck rfl) ?_))))))
            refine s_val rfl (v_fieldAddr rfl Tryz.underlying196 rfl Tryz.sizeOf73 rfl (by first | exact Nat.zero_add _ | rfl)) ?_
            refine s_val rfl (v_fieldAddr rfl Tryz.underlying73 rfl Tryz.sizeOf3 rfl (by first | exact Nat.zero_add _ | rfl)) ?_
            refine s_val rfl (v_load Tryz.isAgg3 rfl (cell_own rfl)) ?_
            refine s_do rfl (d_call Tryz.call249 rfl (qOne_spec W0 _ put hp)) ?_
            rintro _ B_ ⟨rfl, hB_⟩
            obtain rfl := hB_.symm
            refine s_val rfl (v_nilCheck rfl) ?_
            refine s_val rfl (v_fieldAddr rfl Tryz.underlying196 rfl Tryz.sizeOf73 rfl (by first | exact Nat.zero_add _ | rfl)) ?_
            refine s_val rfl (v_fieldAddr rfl Tryz.underlying73 rfl Tryz.sizeOf3 rfl (by first | exact Nat.zero_add _ | rfl)) ?_
            refine s_do0 (d_store Tryz.sizeOf3 rfl rfl rfl (Nat.le_of_ble_eq_true rfl) SetL.eq) ?_
            rintro _ _ rfl
            refine x_nil (n_then (x_seq (x_seq ?_)))
            refine x_draw [(b, 0, _)] 15 mixed rfl (sc_own sc_end) (fun hS => ?_)
            refine d_take 0 rfl rfl (by kernel_rfl) (by kernel_rfl) (by kernel_rfl) rfl hS (v_move rfl) ?_
            refine d_take 1 rfl rfl (by kernel_rfl) (by kernel_rfl) (by kernel_rfl) rfl hS (v_move rfl) ?_
            refine d_take 2 rfl rfl (by kernel_rfl) (by kernel_rfl) (by kernel_rfl) rfl hS (v_nilCheck rfl) ?_
            refine d_take 3 rfl rfl (by kernel_rfl) (by kernel_rfl) (by kernel_rfl) rfl hS (v_fieldAddr rfl Tryz.underlying196 rfl Tryz.sizeOf73 rfl (by first | exact Nat.zero_add _ | rfl)) ?_
            refine d_take 4 rfl rfl (by kernel_rfl) (by kernel_rfl) (by kernel_rfl) rfl hS (v_fieldAddr rfl Tryz.underlying73 rfl Tryz.sizeOf71 rfl (by first | exact Nat.zero_add _ | rfl)) ?_
            refine d_take 5 rfl rfl (by kernel_rfl) (by kernel_rfl) (by kernel_rfl) rfl hS (v_fieldAddr rfl Tryz.underlying71 rfl Tryz.sizeOf47 rfl (by first | exact Nat.zero_add _ | rfl)) ?_
            refine d_take 6 rfl rfl (by kernel_rfl) (by kernel_rfl) (by kernel_rfl) rfl hS (v_load Tryz.isAgg47 rfl (cell_sc0 (k := 0) rfl rfl)) ?_
            refine d_take 7 rfl rfl (by kernel_rfl) (by kernel_rfl) (by kernel_rfl) rfl hS (v_move rfl) ?_
            refine d_take 8 rfl rfl (by kernel_rfl) (by kernel_rfl) (by kernel_rfl) rfl hS (v_nilCheck rfl) ?_
            refine d_take 9 rfl rfl (by kernel_rfl) (by kernel_rfl) (by kernel_rfl) rfl hS (v_fieldAddr rfl Tryz.underlying196 rfl Tryz.sizeOf73 rfl (by first | exact Nat.zero_add _ | rfl)) ?_
            refine d_take 10 rfl rfl (by kernel_rfl) (by kernel_rfl) (by kernel_rfl) rfl hS (v_fieldAddr rfl Tryz.underlying73 rfl Tryz.sizeOf3 rfl (by first | exact Nat.zero_add _ | rfl)) ?_
            refine d_take 11 rfl rfl (by kernel_rfl) (by kernel_rfl) (by kernel_rfl) rfl hS (v_load Tryz.isAgg3 rfl (cell_sc0 (k := 0) rfl rfl)) ?_
            refine d_take 12 rfl rfl (by kernel_rfl) (by kernel_rfl) (by kernel_rfl) rfl hS (v_conv Tryz.underlying3 Tryz.underlying47 rfl (w32u (by omega))) ?_
            refine d_one 13 (by kernel_rfl) rfl rfl (d_call3 Tryz.call248 rfl (qPut_spec W0 _ pv ps pm (dnD2 fr pg d ⟨⟨sd, sa, su, n⟩, true, 0, last, put⟩ (u32N x)) (dnF2 fr pg ⟨⟨sd, sa, su, n⟩, true, 0, last, put⟩ (u32N x) (u32N y)) pg h f2 d2 su (by omega) ((put + 1) % 65536) (by omega))) rfl ?_; clear hS
            rintro _ B_ ⟨rfl, hB_⟩
            obtain rfl := hB_.symm
            rw [l2]
            refine ⟨(sc_own sc_end), fun hS => ?_⟩
            refine d_take 14 rfl rfl (by kernel_rfl) (by kernel_rfl) (by kernel_rfl) rfl hS (v_not rfl) ?_
            refine d_done (by kernel_rfl) ?_; clear hS
            refine n_then ?_
            refine x_if rfl ?_ ?_
            · intro c9
              refine x_seq (x_region (s_val rfl (v_move rfl) (s_do rfl (d_call1 Tryz.call211 rfl (qBreaks_spec W0 _ b true ⟨⟨sd, sa, su, n⟩, true, 0, last, (put + 1) % 65536⟩ 5)) ?_)))
              rintro _ B_ ⟨rfl, hB_⟩
              obtain rfl := hB_.symm
              refine s_val rfl (v_assign rfl) (x_nil (n_then (x_ret (r_then (x_done (.inl rfl) (.cons (r_tmp rfl) .nil) ?_)))))
              rw [hX3 (by simp_all) (by simp_all) 5 (by simp_all)]; exact ⟨_, ⟨rfl, rfl⟩, inferInstance⟩
            · intro c9
              refine x_skip (n_then (x_seq (x_region (s_val rfl (v_assign rfl) (x_nil (n_then (x_ret (x_done (.inl rfl) (.cons (r_tmp rfl) .nil) ?_))))))))
              rw [hX3 (by simp_all) (by simp_all) 0 (by simp_all)]; exact ⟨_, ⟨rfl, rfl⟩, inferInstance⟩
  · have hu' : ¬ (on = true ∧ br = 0) := by simpa using hu
    have hX : dnX fr pg d ⟨⟨sd, sa, su, sn⟩, on, br, last, put⟩ (u32N x) (u32N y) = ⟨br, ⟨⟨sd, sa, su, sn⟩, on, br, last, put⟩, fr, d⟩ := by rw [dnX, if_neg hu]
    rw [hX]
    refine spec_body Tryz.func185 Tryz.ntmps185 rfl rfl ?_
    refine x_seq (x_region (s_val rfl (v_assign rfl) (x_nil (n_then (x_seq (x_block (x_seq (x_region (s_val rfl (v_move rfl) (s_do rfl (d_call1 Tryz.call118 rfl (qNone_spec W0 _ b true ⟨⟨sd, sa, su, sn⟩, on, br, last, put⟩)) ?_))))))))))
    rintro _ B_ ⟨rfl, hB_⟩
    obtain rfl := hB_.symm
    refine s_val rfl (v_assign rfl) (x_nil (n_then ?_))
    refine x_if rfl ?_ ?_
    · intro c1
      exact absurd c1 (by decide)
    · intro c1
      refine x_seq (x_region (s_val rfl (v_move rfl) (s_do rfl (d_call1 Tryz.call247 rfl (qUsable_spec W0 _ b true ⟨⟨sd, sa, su, sn⟩, on, br, last, put⟩)) ?_)))
      rintro _ B_ ⟨rfl, hB_⟩
      obtain rfl := hB_.symm
      refine s_val rfl (v_not rfl) (s_val rfl (v_assign rfl) (x_nil (n_then ?_)))
      refine x_if rfl ?_ ?_
      · intro c3
        refine x_seq (x_region (s_val rfl (v_move rfl) (s_val rfl (v_nilCheck rfl) ?_)))
        refine s_val rfl (v_fieldAddr rfl Tryz.underlying196 rfl Tryz.sizeOf73 rfl (by first | exact Nat.zero_add _ | rfl)) ?_
        refine s_val rfl (v_fieldAddr rfl Tryz.underlying73 rfl Tryz.sizeOf3 rfl (by first | exact Nat.zero_add _ | rfl)) ?_
        refine s_val rfl (v_load Tryz.isAgg3 rfl (cell_own rfl)) ?_
        refine s_val rfl (v_assign rfl) (x_nil (n_then (x_ret (r_block (r_then (x_done (.inl rfl) (.cons (r_tmp rfl) .nil) ?_))))))
        exact ⟨_, ⟨rfl, rfl⟩, inferInstance⟩
      · intro c3
        exact absurd (Decidable.not_not.1 c3) hu'
def tkL (fr : List Frm) (pg : List Pl) (s : QS) : List Dsc × Int := wkAll fr pg s.r (nxR fr pg s).1
def tkR (fr : List Frm) (pg : List Pl) (s : QS) : Nat × List Dsc × Bool × Int :=
  if (nxR fr pg s).2.1 then (if (tkL fr pg s).2 ≠ 0 then (0, [], false, (tkL fr pg s).2) else ((nxR fr pg s).1, (tkL fr pg s).1, true, 0)) else (0, [], false, (nxR fr pg s).2.2)
def tkS (fr : List Frm) (pg : List Pl) (s : QS) : QS :=
  if (nxR fr pg s).2.1 then (if (tkL fr pg s).2 ≠ 0 then { nxS fr pg s with br := (tkL fr pg s).2 } else nxS fr pg s) else nxS fr pg s
theorem nxS_r (fr : List Frm) (pg : List Pl) (s : QS) : (nxS fr pg s).r = s.r := by
  unfold nxS; split
  · split
    · rfl
    · split <;> rfl
  · rfl
theorem nxS_ok {fr : List Frm} {pg : List Pl} {s : QS} (hs : QOk s) : QOk (nxS fr pg s) := by
  unfold nxS; split
  · split
    · exact ⟨hs.n, hs.av, hs.us, hs.last, hs.put⟩
    · split
      · exact ⟨hs.n, hs.av, hs.us, Nat.mod_lt _ (by decide), hs.put⟩
      · exact hs
  · exact hs
theorem tkS_ok {fr : List Frm} {pg : List Pl} {s : QS} (hs : QOk s) : QOk (tkS fr pg s) := by
  have h := nxS_ok (fr := fr) (pg := pg) hs
  unfold tkS; split
  · split
    · exact ⟨h.n, h.av, h.us, h.last, h.put⟩
    · exact h
  · exact h
theorem qTake_spec (W0 : World) (R : List HP) (b pv ps pm d : Nat) (fr : List Frm) (pg : List Pl) (h : Pgs pg) (hF : Frs fr) (s : QS) (hs : QOk s) (hr : s.r.ok) :
    Spec Tryz.prog W0 130 [.pointer (some ⟨b, 0, none⟩), .pointer (some ⟨pv, 0, none⟩)] (pt b (qO true s) :: vwW pv ps pm d fr pg R)
      (fun v B => ∃ a c, v = .tuple #[.int .i64 ((tkR fr pg s).1 : Nat), .slice a (tkR fr pg s).2.1.length c, .bool (tkR fr pg s).2.2.1, .int .i64 (tkR fr pg s).2.2.2] ∧
        B = osl 99 4 (.slice a (tkR fr pg s).2.1.length c) ((tkR fr pg s).2.1.flatMap dsV) :: pt b (qO true (tkS fr pg s)) :: vwW pv ps pm d fr pg R) := by
  obtain ⟨x, hx⟩ : ∃ x, nxR fr pg s = x := ⟨_, rfl⟩
  obtain ⟨y, hy⟩ : ∃ y, wkAll fr pg s.r x.1 = y := ⟨_, rfl⟩
  have hq : tkL fr pg s = y := by rw [tkL, hx, hy]
  have hsr := nxS_r fr pg s
  obtain ⟨z, hz⟩ : ∃ z, nxS fr pg s = z := ⟨_, rfl⟩
  rw [hz] at hsr
  simp only [tkR, tkS, hx, hq, hz]
  refine spec_body Tryz.func130 Tryz.ntmps130 rfl rfl ?_
  refine x_seq (x_region (s_val rfl (v_assign rfl) (s_val rfl (v_assign rfl) (s_val rfl (v_assign rfl) (s_val rfl (v_assign rfl) (x_nil (n_then (x_seq (x_region (s_val rfl (v_move rfl) (s_val rfl (v_move rfl) (s_do rfl (d_call4 Tryz.call209 rfl (qNext_spec W0 _ b pv ps pm d fr pg h hF s hs)) ?_))))))))))))
  rintro _ B_ ⟨rfl, hB_⟩
  obtain rfl := hB_.symm
  rw [hx, hz]
  refine s_val rfl (v_move rfl) (s_val rfl (v_extract rfl rfl) (s_val rfl (v_extract rfl rfl) (s_val rfl (v_extract rfl rfl) (s_val rfl (v_assign rfl) (s_val rfl (v_assign rfl) (s_val rfl (v_assign rfl) (x_nil (n_then (x_seq (x_seq (x_region (s_val rfl (v_move rfl) (s_val rfl (v_not rfl) (x_nil (n_then ?_)))))))))))))))
  refine x_if rfl ?_ ?_
  · intro c2
    refine x_seq (x_region (s_val rfl (v_move rfl) (s_val rfl (v_assign rfl) (s_val rfl (v_assign rfl) (s_val rfl (v_assign rfl) (s_val rfl (v_assign rfl) (x_nil (n_then (x_ret (r_then (x_done (.inl rfl) (.cons (r_tmp rfl) (.cons (r_tmp rfl) (.cons (r_tmp rfl) (.cons (r_tmp rfl) .nil)))) ?_)))))))))))
    rw [if_neg c2, if_neg c2]
    exact ⟨_, ⟨none, 0, rfl, rfl⟩, ent_osl_nil⟩
  · intro c2
    have c2' : x.2.1 = true := Decidable.not_not.1 c2
    rw [if_pos c2', if_pos c2']
    refine x_skip (n_then (x_seq (x_region (s_val rfl (v_move rfl) (s_val rfl (v_move rfl) (s_val rfl (v_nilCheck rfl) ?_))))))
    refine s_val rfl (v_fieldAddr rfl Tryz.underlying196 rfl Tryz.sizeOf73 rfl (by first | exact Nat.zero_add _ | rfl)) ?_
    refine s_val rfl (v_fieldAddr rfl Tryz.underlying73 rfl Tryz.sizeOf71 rfl (by first | exact Nat.zero_add _ | rfl)) ?_
    refine s_val rfl (v_loadPart Tryz.isAgg71 Tryz.sizeOf71 rfl TakeL.eq rfl) ?_
    refine s_val rfl (v_move rfl) ?_
    refine s_do rfl (d_call3 Tryz.call210 rfl (chWalk_spec W0 _ pv ps pm d fr pg h hF z.r (by rw [hsr]; exact hr) x.1)) ?_
    rintro _ B_ ⟨a, c, rfl, hB_⟩
    obtain rfl := hB_.symm
    rw [show wkAll fr pg z.r x.1 = y by rw [hsr, hy]]
    refine s_val rfl (v_move rfl) (s_val rfl (v_extract rfl rfl) (s_val rfl (v_extract rfl rfl) (s_val rfl (v_assign rfl) (s_val rfl (v_assign rfl) (x_nil (n_then (x_seq (x_seq (x_region (s_val rfl (v_move rfl) (s_val rfl (v_neq rfl rfl) (x_nil (n_then ?_)))))))))))))
    refine x_if rfl ?_ ?_
    · intro c5
      rw [if_pos c5, if_pos c5]
      refine x_seq (x_region (s_val rfl (v_move rfl) (s_val rfl (v_move rfl) (s_do rfl (d_call1 Tryz.call211 rfl (qBreaks_spec W0 _ b true z y.2)) ?_))))
      rintro _ B_ ⟨rfl, hB_⟩
      obtain rfl := hB_.symm
      refine s_val rfl (v_assign rfl) (s_val rfl (v_assign rfl) (s_val rfl (v_assign rfl) (s_val rfl (v_assign rfl) (x_nil (n_then (x_ret (r_then (x_done (.inl rfl) (.cons (r_tmp rfl) (.cons (r_tmp rfl) (.cons (r_tmp rfl) (.cons (r_tmp rfl) .nil)))) ?_))))))))
      exact ⟨_, ⟨none, 0, rfl, rfl⟩, ent_osl_nil⟩
    · intro c5
      rw [if_neg c5, if_neg c5]
      refine x_skip (n_then (x_seq (x_region (s_val rfl (v_move rfl) (s_val rfl (v_move rfl) (s_val rfl (v_assign rfl) (s_val rfl (v_assign rfl) (s_val rfl (v_assign rfl) (s_val rfl (v_assign rfl) (x_nil (n_then (x_ret (x_done (.inl rfl) (.cons (r_tmp rfl) (.cons (r_tmp rfl) (.cons (r_tmp rfl) (.cons (r_tmp rfl) .nil)))) ?_)))))))))))))
      exact ⟨_, ⟨a, c, rfl, rfl⟩, inferInstance⟩
end Go.Proofs.YtlnmofhehcilhaaGreat
namespace Go.Proofs.YtlnmofhehcilhaaGreat
open Go.RowKit
set_option linter.unusedSimpArgs false
set_option linter.unusedVariables false
set_option maxRecDepth 20000
theorem byV_ne {X : List Nat} (h : 0 < X.length) : byV X ≠ [] := fun h0 => by
  have := congrArg List.length h0
  rw [byV_len, List.length_nil] at this; omega
theorem rdO_len {fr : List Frm} {pg : List Pl} {pa : Nat} {n : Int} : (rdO fr pg pa n).length ≤ 512 := by
  unfold rdO; split
  · rename_i h; rw [rdL_len]; have := (ownB_iff.1 h).1; omega
  · simp
def roomN (most : Int) (n : Nat) : Nat := (most - (n : Int)).toNat
def gthK (fr : List Frm) (pg : List Pl) (l : List Dsc) (most : Int) : Nat → List Nat
  | 0 => []
  | k + 1 => let d := l.getD k zD; if wrB d then gthK fr pg l most k else gthK fr pg l most k ++ (rdO fr pg d.addr d.len).take (roomN most (gthK fr pg l most k).length)
theorem gthK_by {fr : List Frm} (hF : Frs fr) (pg : List Pl) (l : List Dsc) (most : Int) : ∀ k, By (gthK fr pg l most k)
  | 0 => fun b hb => by simp [gthK] at hb
  | k + 1 => by
    rw [gthK]; split
    · exact gthK_by hF pg l most k
    · exact (gthK_by hF pg l most k).append ((rdO_by hF _ _ _).take _)
theorem gthK_len (fr : List Frm) (pg : List Pl) (l : List Dsc) (most : Int) : ∀ k, (gthK fr pg l most k).length ≤ 512 * k ∧ ((gthK fr pg l most k).length = 0 ∨ ((gthK fr pg l most k).length : Int) ≤ most)
  | 0 => ⟨by simp [gthK], .inl rfl⟩
  | k + 1 => by
    obtain ⟨h1, h2⟩ := gthK_len fr pg l most k
    have h3 := rdO_len (fr := fr) (pg := pg) (pa := (l.getD k zD).addr) (n := (l.getD k zD).len)
    rw [gthK]; split
    · exact ⟨by omega, h2⟩
    · rw [List.length_append, List.length_take, roomN]; omega
theorem byV_take (l : List Nat) (k : Nat) : byV (l.take k) = (byV l).take k := by simp [byV, List.map_take]
theorem chGather_spec (W0 : World) (R : List HP) (pv ps pm d c : Nat) (a : Option Addr) (fr : List Frm) (pg : List Pl) (h : Pgs pg) (hF : Frs fr) (l : List Dsc) (hs : SlA (OwnP W0 R) a 4 dsV l) (hl : ∀ x ∈ l, x.ok) (hn : l.length ≤ 1000) (most : Int) (hm : -9223372036854775808 ≤ most ∧ most < 9223372036854775808) :
    Spec Tryz.prog W0 187 [.pointer (some ⟨pv, 0, none⟩), .slice a l.length c, .int .i64 most] (vw pv ps pm d fr pg R)
      (fun v B => ∃ a' c', v = .slice a' (gthK fr pg l most l.length).length c' ∧ B = osl 5 1 (.slice a' (gthK fr pg l most l.length).length c') (byV (gthK fr pg l most l.length)) :: vw pv ps pm d fr pg R) := by
  refine spec_body Tryz.func187 Tryz.ntmps187 rfl rfl ?_
  refine x_seq (x_region (s_val rfl (v_assign rfl) (x_nil (n_then (x_seq (x_region (s_val rfl (v_assign rfl) (x_nil (n_then (x_seq (x_seq (x_region (s_val rfl (v_move rfl) (s_val rfl (v_len_slice Tryz.underlying43 rfl) (s_val rfl (v_move rfl) (x_nil (n_then (x_block ?_))))))))))))))))))
  refine x_loop (fun X : Nat × Option Addr × Nat => X.1 ≤ l.length) (fun X => [(0, .pointer (some ⟨pv, 0, none⟩)), (2, .int .i64 most), (7, .slice X.2.1 (gthK fr pg l most X.1).length X.2.2), (13, .slice a l.length c), (14, .int .i64 l.length), (15, .int .i64 X.1)]) (fun X => osl 5 1 (.slice X.2.1 (gthK fr pg l most X.1).length X.2.2) (byV (gthK fr pg l most X.1)) :: vw pv ps pm d fr pg R) (fun X => l.length - X.1) (0, none, 0) ?_ ?_ ?_ ?_
  · simp
  · repeat (first | exact sub_nil | refine sub_cons rfl ?_)
  · exact ent_osl_nil
  · intro ⟨i, a0, c0⟩ hi
    dsimp only at hi ⊢
    obtain ⟨hg1, hg2⟩ := gthK_len fr pg l most i
    refine x_seq (x_region (s_val rfl (v_lss rfl rfl) (x_nil (n_then (x_seq ?_)))))
    refine x_if rfl ?_ ?_
    · intro c3
      refine x_skip (n_then (x_seq (x_block (x_seq ?_))))
      have hi1 : i < l.length := by omega
      obtain ⟨g, o, rfl, hc⟩ := hs.at_ hi1
      have hd := hl _ (List.getElem_mem hi1)
      have hgd : l.getD i zD = l[i] := by simp [List.getD, hi1]
      have ha := hd.addr
      have hle := hd.len
      refine x_region ?_
      refine s_val rfl (v_idx Tryz.underlying43 Tryz.sizeOf99 rfl rfl rfl hi1 (by first | exact Nat.zero_add _ | rfl)) ?_
      refine s_val rfl (v_loadAgg Tryz.isAgg99 Tryz.sizeOf99 rfl hc.weak rfl) ?_
      refine s_do rfl (d_allocA Tryz.zeroValue99) ?_
      rintro _ _ ⟨b1, rfl, rfl⟩
      refine s_do0 (d_storeAll Tryz.sizeOf99 rfl rfl rfl rfl rfl) ?_
      rintro _ _ rfl
      refine x_nil (n_then (x_seq (x_seq (x_region (s_val rfl (v_loadAll Tryz.isAgg99 Tryz.sizeOf99 rfl rfl) ?_)))))
      refine s_do rfl (d_call Tryz.call195 rfl (chWrites_spec W0 _ l[i] hd)) ?_
      rintro _ B_ ⟨rfl, hB_⟩
      obtain rfl := hB_.symm
      refine x_nil (n_then ?_)
      refine x_if rfl ?_ ?_
      · intro c5
        have hst : gthK fr pg l most (i + 1) = gthK fr pg l most i := by rw [gthK]; simp only [hgd]; rw [if_pos c5]
        obtain ⟨a1, rfl⟩ : ∃ x, x = a0 := ⟨a0, rfl⟩
        obtain ⟨c1, rfl⟩ : ∃ x, x = c0 := ⟨c0, rfl⟩
        refine x_exit (e_then (e_block (n_then (x_region ?_))))
        refine s_val rfl (v_add rfl rfl (by first | exact w64 (by omega) | rfl)) ?_
        refine s_val rfl (v_move rfl) (x_nil (n_then ?_))
        refine inv_intro (i + 1, a1, c1) ?_ ?_ ?_ ?_
        · omega
        · omega
        · dsimp only
          rw [hst]
          try rw [List.length_append, List.length_take, Nat.min_comm]
          repeat (first | exact sub_nil | refine sub_cons rfl ?_)
        · dsimp only
          rw [hst]
          first
            | exact inferInstance
            | (rw [List.length_append, List.length_take, Nat.min_comm, byV_append]; exact inferInstance)
      · intro c5
        have hst : gthK fr pg l most (i + 1) = gthK fr pg l most i ++ (rdO fr pg l[i].addr l[i].len).take (roomN most (gthK fr pg l most i).length) := by rw [gthK]; simp only [hgd]; rw [if_neg c5]
        have hr5 := rdO_len (fr := fr) (pg := pg) (pa := l[i].addr) (n := l[i].len)
        have hrm : roomN most (gthK fr pg l most i).length = (most - ((gthK fr pg l most i).length : Int)).toNat := rfl
        refine x_skip (n_then (x_seq (x_region (s_val rfl (v_move rfl) ?_))))
        refine s_val rfl (v_fieldAddr rfl Tryz.underlying99 rfl Tryz.sizeOf47 rfl (by first | exact Nat.zero_add _ | rfl)) ?_
        refine s_val rfl (v_load Tryz.isAgg47 rfl (cell_own rfl)) ?_
        refine s_val rfl (v_fieldAddr rfl Tryz.underlying99 rfl Tryz.sizeOf47 rfl (by first | exact Nat.zero_add _ | rfl)) ?_
        refine s_val rfl (v_load Tryz.isAgg47 rfl (cell_own rfl)) ?_
        refine s_val rfl (v_conv Tryz.underlying47 Tryz.underlying3 rfl (w64 (by omega))) ?_
        refine s_do rfl (d_call3 Tryz.call47 rfl (viRead_spec W0 _ pv ps pm d fr pg h hF l[i].addr ha l[i].len)) ?_
        rintro _ B_ ⟨a2, c2, rfl, hB_⟩
        obtain rfl := hB_.symm
        generalize hX : rdO fr pg l[i].addr l[i].len = X at hst hr5
        generalize hG : gthK fr pg l most i = G at hst hg1 hg2 hrm
        refine run_form (E := 5) (sz := 1) (a := a2) (c := c2) (n := X.length) (fun hf2 => ?_)
        refine run_cap (E := 5) (sz := 1) (a := a2) (c := c2) (n := X.length) (fun hcap => ?_)
        refine s_val rfl (v_move rfl) (s_val rfl (v_extract rfl rfl) (s_val rfl (v_extract rfl rfl) (s_val rfl (v_assign rfl) (s_val rfl (v_assign rfl) (x_nil (n_then (x_seq (x_region (s_val rfl (v_move rfl) (s_val rfl (v_move rfl) (s_val rfl (v_len_slice Tryz.underlying44 rfl) ?_)))))))))))
        refine s_val rfl (v_sub rfl rfl (w64 (by omega))) ?_
        refine s_val rfl (v_max rfl rfl (by rw [hrm]; split <;> omega : (if most - (G.length : Int) > 0 then most - (G.length : Int) else 0) = ((roomN most G.length : Nat) : Int))) ?_
        refine s_val rfl (v_assign rfl) (x_nil (n_then (x_region (s_val rfl (v_move rfl) (s_val rfl (v_move rfl) (s_val rfl (v_move rfl) (s_val rfl (v_len_slice Tryz.underlying44 rfl) (s_val rfl (v_move rfl) ?_))))))))
        refine s_val rfl (v_min rfl rfl (by split <;> omega : (if ((roomN most G.length : Nat) : Int) < (X.length : Int) then ((roomN most G.length : Nat) : Int) else (X.length : Int)) = ((min X.length (roomN most G.length) : Nat) : Int))) ?_
        refine s_val rfl (v_sliceH Tryz.underlying44 Tryz.sizeOf5 rfl rfl rfl (by omega)) ?_
        refine s_do rfl (d_appendS (sz := 1) (by_ := 1) (info := Tryz.t5) Tryz.underlying44 (by kernel_rfl) rfl rfl rfl rfl (by decide) rfl rfl (news := byV (X.take (roomN most G.length))) (by
  rcases hf2 with ⟨q1, q2⟩ | ⟨g2, rfl⟩
  · left
    have : X = [] := by cases X with
      | nil => rfl
      | cons _ _ => simp [byV] at q2
    subst this; simp
  · right
    refine ⟨g2, 0, rfl, fun j u hj => ?_⟩
    rw [byV_take] at hj
    have hjk : j < roomN most G.length := by
      rcases Nat.lt_or_ge j (roomN most G.length) with q | q
      · exact q
      · rw [List.getElem?_eq_none (by rw [List.length_take]; omega)] at hj; cases hj
    rw [List.getElem?_take_of_lt hjk] at hj
    exact cells_osl (E := 5) (sz := 1) (a := some ⟨g2, 0, none⟩) (n := X.length) (c := c2) j u hj) (by rw [byV_len, List.length_take]; omega) (byV_one _) (by simp only [maxLen]; omega) (by omega)) ?_
        rintro _ _ ⟨a1, c1, rfl, rfl⟩
        refine s_val rfl (v_assign rfl) (x_nil (n_block (n_then (x_region ?_))))
        refine s_val rfl (v_add rfl rfl (by first | exact w64 (by omega) | rfl)) ?_
        refine s_val rfl (v_move rfl) (x_nil (n_then ?_))
        refine inv_intro (i + 1, a1, c1) ?_ ?_ ?_ ?_
        · omega
        · omega
        · dsimp only
          rw [hst]
          try rw [List.length_append, List.length_take, Nat.min_comm]
          repeat (first | exact sub_nil | refine sub_cons rfl ?_)
        · dsimp only
          rw [hst]
          first
            | exact inferInstance
            | (rw [List.length_append, List.length_take, Nat.min_comm, byV_append]; exact inferInstance)
    · intro c3
      refine x_exit (e_then (e_then (e_block (n_then (x_seq (x_region (s_val rfl (v_move rfl) (s_val rfl (v_assign rfl) (x_nil (n_then (x_ret (x_done (.inl rfl) (.cons (r_tmp rfl) .nil) ?_))))))))))))
      have e1 : i = l.length := by omega
      subst e1
      exact ⟨_, ⟨a0, c0, rfl, rfl⟩, inferInstance⟩
abbrev ScS := Nat × Nat × List Frm × Nat
def scStep (pg : List Pl) (bs : List Nat) (x : Dsc) (s : ScS) : ScS :=
  if wrB x = true ∧ ownB s.2.2.1.length pg x.addr x.len = true then
    (s.1 - min s.1 x.len, s.2.1 + min (x.len - min s.1 x.len) (bs.length - s.2.1), wrF s.2.2.1 pg (x.addr + min s.1 x.len) ((bs.drop s.2.1).take (min (x.len - min s.1 x.len) (bs.length - s.2.1))), wrE s.2.2.1 pg (x.addr + min s.1 x.len) s.2.2.2 (min (x.len - min s.1 x.len) (bs.length - s.2.1)))
  else s
def scK (fr : List Frm) (pg : List Pl) (d : Nat) (l : List Dsc) (from_ : Int) (bs : List Nat) : Nat → ScS
  | 0 => (from_.toNat, 0, fr, d)
  | i + 1 => scStep pg bs (l.getD i zD) (scK fr pg d l from_ bs i)
structure ScOk (fr : List Frm) (from_ : Int) (bs : List Nat) (s : ScS) : Prop where
  frs : Frs s.2.2.1
  len : s.2.2.1.length = fr.length
  d : s.2.2.2 < 4096
  dn : s.2.1 ≤ bs.length
  sk : s.1 ≤ from_.toNat
theorem scK_ok {fr : List Frm} {pg : List Pl} {d : Nat} {l : List Dsc} {from_ : Int} {bs : List Nat} (hF : Frs fr) (hd : d < 4096) : ∀ i, ScOk fr from_ bs (scK fr pg d l from_ bs i)
  | 0 => ⟨hF, rfl, hd, Nat.zero_le _, Nat.le_refl _⟩
  | i + 1 => by
    have h := scK_ok (pg := pg) (l := l) (from_ := from_) (bs := bs) hF hd i
    rw [scK, scStep]; split
    · have h1 := h.dn
      have h2 := h.sk
      exact ⟨(wrF_ok h.frs).1, (wrF_ok h.frs).2.trans h.len, wrE_lt h.d, by simp only; omega, by simp only; omega⟩
    · exact h
theorem chScatter_spec (W0 : World) (R : List HP) (pv ps pm d c cb : Nat) (a ab : Option Addr) (fr : List Frm) (pg : List Pl) (h : Pgs pg) (hF : Frs fr) (hd : d < 4096) (l : List Dsc) (hs : SlA (OwnP W0 R) a 4 dsV l) (hl : ∀ x ∈ l, x.ok) (hn : l.length ≤ 1000) (from_ : Int) (hf : -9223372036854775808 ≤ from_ ∧ from_ < 9223372036854775808)
    (bs : List Nat) (hb : By bs) (hsb : SlA (OwnP W0 R) ab 1 (fun x => [bV x]) bs) (hbl : bs.length < 9223372036854775808) (hcb : bs.length ≤ cb) :
    Spec Tryz.prog W0 115 [.pointer (some ⟨pv, 0, none⟩), .slice a l.length c, .int .i64 from_, .slice ab bs.length cb] (vw pv ps pm d fr pg R)
      (fun v B => v = .int .i64 ((scK fr pg d l from_ bs l.length).2.1 : Nat) ∧ B = vw pv ps pm (scK fr pg d l from_ bs l.length).2.2.2 (scK fr pg d l from_ bs l.length).2.2.1 pg R) := by
  refine spec_body Tryz.func115 Tryz.ntmps115 rfl rfl ?_
  refine x_seq (x_region (s_val rfl (v_assign rfl) (x_nil (n_then (x_seq (x_region (s_val rfl (v_move rfl) ?_)))))))
  refine s_val rfl (v_max rfl rfl (by split <;> omega : (if from_ > 0 then from_ else 0) = ((from_.toNat : Nat) : Int))) ?_
  refine s_val rfl (v_assign rfl) (s_val rfl (v_assign rfl) (x_nil (n_then (x_seq (x_seq (x_region (s_val rfl (v_move rfl) (s_val rfl (v_len_slice Tryz.underlying43 rfl) (s_val rfl (v_move rfl) (x_nil (n_then (x_block ?_))))))))))))
  refine x_loop (fun i : Nat => i ≤ l.length) (fun i => [(0, .pointer (some ⟨pv, 0, none⟩)), (3, .slice ab bs.length cb), (9, .int .i64 ((scK fr pg d l from_ bs i).1 : Nat)), (10, .int .i64 ((scK fr pg d l from_ bs i).2.1 : Nat)), (18, .slice a l.length c), (19, .int .i64 l.length), (20, .int .i64 i)]) (fun i => vw pv ps pm (scK fr pg d l from_ bs i).2.2.2 (scK fr pg d l from_ bs i).2.2.1 pg R) (fun i => l.length - i) 0 ?_ ?_ ?_ ?_
  · exact Nat.zero_le _
  · repeat (first | exact sub_nil | refine sub_cons rfl ?_)
  · simp only [scK]; exact inferInstance
  · intro i hi
    have hok := scK_ok (pg := pg) (l := l) (from_ := from_) (bs := bs) hF hd i
    have hS : scK fr pg d l from_ bs (i + 1) = scStep pg bs (l.getD i zD) (scK fr pg d l from_ bs i) := rfl
    have hend : ∀ hle : i = l.length, scK fr pg d l from_ bs l.length = scK fr pg d l from_ bs i := fun q => by rw [q]
    generalize scK fr pg d l from_ bs i = s at hok hS hend ⊢
    obtain ⟨sk, dn, fi, di⟩ := s
    obtain ⟨hFi, hli, hdi, hdn, hsk⟩ := hok
    dsimp only at hFi hli hdi hdn hsk ⊢
    refine x_seq (x_region (s_val rfl (v_lss rfl rfl) (x_nil (n_then (x_seq ?_)))))
    refine x_if rfl ?_ ?_
    · intro c3
      refine x_skip (n_then (x_seq (x_block (x_seq ?_))))
      have hi1 : i < l.length := by omega
      obtain ⟨g, o, rfl, hc⟩ := hs.at_ hi1
      have hx := hl _ (List.getElem_mem hi1)
      have hgd : l.getD i zD = l[i] := by simp [List.getD, hi1]
      rw [hgd] at hS
      generalize l[i] = x at hc hx hS
      have ha := hx.addr
      have hle := hx.len
      refine x_region ?_
      refine s_val rfl (v_idx Tryz.underlying43 Tryz.sizeOf99 rfl rfl rfl hi1 (by first | exact Nat.zero_add _ | rfl)) ?_
      refine s_val rfl (v_loadAgg Tryz.isAgg99 Tryz.sizeOf99 rfl hc.weak rfl) ?_
      refine s_do rfl (d_allocA Tryz.zeroValue99) ?_
      rintro _ _ ⟨b1, rfl, rfl⟩
      refine s_do0 (d_storeAll Tryz.sizeOf99 rfl rfl rfl rfl rfl) ?_
      rintro _ _ rfl
      refine x_nil (n_then (x_seq (x_seq (x_region (s_val rfl (v_loadAll Tryz.isAgg99 Tryz.sizeOf99 rfl rfl) ?_)))))
      refine s_do rfl (d_call Tryz.call195 rfl (chWrites_spec W0 _ x hx)) ?_
      rintro _ B_ ⟨rfl, hB_⟩
      obtain rfl := hB_.symm
      refine s_val rfl (v_not rfl) (s_val rfl (v_move rfl) ?_)
      refine s_or rfl rfl rfl ?_ ?_
      · intro g5_4
        have hst : scK fr pg d l from_ bs (i + 1) = (sk, dn, fi, di) := by rw [hS, scStep, if_neg (fun q => g5_4 q.1)]
        refine s_no rfl rfl rfl rfl (s_no rfl rfl rfl rfl (s_no rfl rfl rfl rfl (s_no rfl rfl rfl rfl (s_no rfl rfl rfl rfl (s_no rfl rfl rfl rfl (s_no rfl rfl rfl rfl (s_val rfl (v_pick_t rfl rfl) (x_nil (n_then (x_ift rfl (x_exit (e_then (e_block (n_then (x_region ?_)))))))))))))))
        refine s_val rfl (v_add rfl rfl (by first | exact w64 (by omega) | rfl)) ?_
        refine s_val rfl (v_move rfl) (x_nil (n_then ?_))
        refine inv_intro (i + 1) ?_ ?_ ?_ ?_
        · omega
        · omega
        · rw [hst]; repeat (first | exact sub_nil | refine sub_cons rfl ?_)
        · rw [hst]; exact inferInstance
      · intro g5_4
        refine s_val rfl (v_move rfl) (s_yes rfl rfl ?_)
        refine s_val rfl (v_fieldAddr rfl Tryz.underlying99 rfl Tryz.sizeOf47 rfl (by first | exact Nat.zero_add _ | rfl)) ?_
        refine s_yes rfl rfl (s_val rfl (v_load Tryz.isAgg47 rfl (cell_own rfl)) ?_)
        refine s_yes rfl rfl ?_
        refine s_val rfl (v_fieldAddr rfl Tryz.underlying99 rfl Tryz.sizeOf47 rfl (by first | exact Nat.zero_add _ | rfl)) ?_
        refine s_yes rfl rfl (s_val rfl (v_load Tryz.isAgg47 rfl (cell_own rfl)) ?_)
        refine s_yes rfl rfl ?_
        refine s_val rfl (v_conv Tryz.underlying47 Tryz.underlying3 rfl (w64 (by omega))) ?_
        refine s_yes rfl rfl (s_do rfl (d_call3 Tryz.call132 rfl (viOwn_spec W0 _ pv ps pm di fi pg h x.addr ha x.len)) ?_)
        rintro _ B_ ⟨rfl, hB_⟩
        obtain rfl := hB_.symm
        refine s_yes rfl rfl (s_val rfl (v_not rfl) (s_val rfl (v_pick_f rfl rfl) (x_nil (n_then ?_))))
        refine x_if rfl ?_ ?_
        · intro c5
          have hst : scK fr pg d l from_ bs (i + 1) = (sk, dn, fi, di) := by rw [hS, scStep, if_neg (fun q => c5 q.2)]
          refine x_exit (e_then (e_block (n_then (x_region ?_))))
          refine s_val rfl (v_add rfl rfl (by first | exact w64 (by omega) | rfl)) ?_
          refine s_val rfl (v_move rfl) (x_nil (n_then ?_))
          refine inv_intro (i + 1) ?_ ?_ ?_ ?_
          · omega
          · omega
          · rw [hst]; repeat (first | exact sub_nil | refine sub_cons rfl ?_)
          · rw [hst]; exact inferInstance
        · intro c5
          have hw : wrB x = true := by simpa using g5_4
          have ho : ownB fi.length pg x.addr x.len = true := by simpa using c5
          have hst : scK fr pg d l from_ bs (i + 1) = (sk - min sk x.len, dn + min (x.len - min sk x.len) (bs.length - dn), wrF fi pg (x.addr + min sk x.len) ((bs.drop dn).take (min (x.len - min sk x.len) (bs.length - dn))), wrE fi pg (x.addr + min sk x.len) di (min (x.len - min sk x.len) (bs.length - dn))) := by rw [hS, scStep, if_pos ⟨hw, ho⟩]
          have h512 := (ownB_nat.1 ho).1
          obtain ⟨ah, hah⟩ : ∃ y, min sk x.len = y := ⟨_, rfl⟩
          rw [hah] at hst
          obtain ⟨kk, hkk⟩ : ∃ y, min (x.len - ah) (bs.length - dn) = y := ⟨_, rfl⟩
          rw [hkk] at hst
          refine x_skip (n_then (x_seq (x_region ?_)))
          refine s_val rfl (v_fieldAddr rfl Tryz.underlying99 rfl Tryz.sizeOf47 rfl (by first | exact Nat.zero_add _ | rfl)) ?_
          refine s_val rfl (v_load Tryz.isAgg47 rfl (cell_own rfl)) ?_
          refine s_val rfl (v_conv Tryz.underlying47 Tryz.underlying3 rfl (w64 (by omega))) ?_
          refine s_val rfl (v_assign rfl) (x_nil (n_then (x_seq (x_region (s_val rfl (v_move rfl) (s_val rfl (v_move rfl) ?_))))))
          refine s_val rfl (v_min rfl rfl (by split <;> omega : (if (x.len : Int) < (sk : Int) then (x.len : Int) else (sk : Int)) = ((ah : Nat) : Int))) ?_
          refine s_val rfl (v_assign rfl) (x_nil (n_then (x_seq (x_region (s_val rfl (v_move rfl) (s_val rfl (v_move rfl) ?_))))))
          refine s_val rfl (v_sub rfl rfl (by rw [w64 (by omega)]; omega : IntKind.wrap .i64 ((sk : Int) - (ah : Int)) = ((sk - ah : Nat) : Int))) ?_
          refine s_val rfl (v_assign rfl) (x_nil (n_then (x_seq (x_region (s_val rfl (v_move rfl) (s_val rfl (v_move rfl) ?_))))))
          refine s_val rfl (v_sub rfl rfl (by rw [w64 (by omega)]; omega : IntKind.wrap .i64 ((x.len : Int) - (ah : Int)) = ((x.len - ah : Nat) : Int))) ?_
          refine s_val rfl (v_move rfl) (s_val rfl (v_len_slice Tryz.underlying44 rfl) (s_val rfl (v_move rfl) ?_))
          refine s_val rfl (v_sub rfl rfl (by rw [w64 (by omega)]; omega : IntKind.wrap .i64 ((bs.length : Int) - (dn : Int)) = ((bs.length - dn : Nat) : Int))) ?_
          refine s_val rfl (v_min rfl rfl (by split <;> omega : (if ((bs.length - dn : Nat) : Int) < ((x.len - ah : Nat) : Int) then ((bs.length - dn : Nat) : Int) else ((x.len - ah : Nat) : Int)) = ((kk : Nat) : Int))) ?_
          refine s_val rfl (v_assign rfl) (x_nil (n_then (x_seq ?_)))
          refine x_draw [(b1, 0, _)] 13 mixed rfl (sc_own sc_end) (fun hS => ?_)
          refine d_take 0 rfl rfl (by kernel_rfl) (by kernel_rfl) (by kernel_rfl) rfl hS (v_move rfl) ?_
          refine d_take 1 rfl rfl (by kernel_rfl) (by kernel_rfl) (by kernel_rfl) rfl hS (v_fieldAddr rfl Tryz.underlying99 rfl Tryz.sizeOf47 rfl (by first | exact Nat.zero_add _ | rfl)) ?_
          refine d_take 2 rfl rfl (by kernel_rfl) (by kernel_rfl) (by kernel_rfl) rfl hS (v_load Tryz.isAgg47 rfl (cell_sc0 (k := 0) rfl rfl)) ?_
          refine d_take 3 rfl rfl (by kernel_rfl) (by kernel_rfl) (by kernel_rfl) rfl hS (v_move rfl) ?_
          refine d_take 4 rfl rfl (by kernel_rfl) (by kernel_rfl) (by kernel_rfl) rfl hS (v_conv Tryz.underlying3 Tryz.underlying47 rfl (w32u (by omega))) ?_
          refine d_take 5 rfl rfl (by kernel_rfl) (by kernel_rfl) (by kernel_rfl) rfl hS (v_add rfl rfl (by rw [w32u (by omega)]; omega : IntKind.wrap .u32 ((x.addr : Int) + (ah : Int)) = ((x.addr + ah : Nat) : Int))) ?_
          refine d_take 6 rfl rfl (by kernel_rfl) (by kernel_rfl) (by kernel_rfl) rfl hS (v_move rfl) ?_
          refine d_take 7 rfl rfl (by kernel_rfl) (by kernel_rfl) (by kernel_rfl) rfl hS (v_move rfl) ?_
          refine d_take 8 rfl rfl (by kernel_rfl) (by kernel_rfl) (by kernel_rfl) rfl hS (v_move rfl) ?_
          refine d_take 9 rfl rfl (by kernel_rfl) (by kernel_rfl) (by kernel_rfl) rfl hS (v_move rfl) ?_
          refine d_take 10 rfl rfl (by kernel_rfl) (by kernel_rfl) (by kernel_rfl) rfl hS (v_add rfl rfl (by rw [w64 (by omega)]; omega : IntKind.wrap .i64 ((dn : Int) + (kk : Int)) = ((dn + kk : Nat) : Int))) ?_
          refine d_take 11 rfl rfl (by kernel_rfl) (by kernel_rfl) (by kernel_rfl) rfl hS (v_sliceLHg Tryz.underlying44 Tryz.sizeOf5 rfl rfl rfl rfl rfl (by omega) (by omega)) ?_
          refine d_one 12 (by kernel_rfl) rfl rfl (d_call3 Tryz.call88 rfl (viWriteN_spec W0 _ pv ps pm di _ (dn + kk - dn) _ fi pg h hFi hdi (x.addr + ah) (by omega) ((bs.drop dn).take kk) (by rw [List.length_take, List.length_drop]; omega) ((hb.drop _).take _) (SlA.sub hsb.weak (by omega) hcb) (by omega))) rfl ?_; clear hS
          rintro _ B_ ⟨rfl, hB_⟩
          obtain rfl := hB_.symm
          rw [show dn + kk - dn = kk by omega]
          refine ⟨(sc_own sc_end), fun hS => ?_⟩
          refine d_done (by kernel_rfl) ?_; clear hS
          refine n_then (x_region (s_val rfl (v_move rfl) (s_val rfl (v_move rfl) ?_)))
          refine s_val rfl (v_add rfl rfl (by rw [w64 (by omega)]; omega : IntKind.wrap .i64 ((dn : Int) + (kk : Int)) = ((dn + kk : Nat) : Int))) ?_
          refine s_val rfl (v_assign rfl) (x_nil (n_block (n_then (x_region ?_))))
          refine s_val rfl (v_add rfl rfl (by first | exact w64 (by omega) | rfl)) ?_
          refine s_val rfl (v_move rfl) (x_nil (n_then ?_))
          refine inv_intro (i + 1) ?_ ?_ ?_ ?_
          · omega
          · omega
          · rw [hst]; repeat (first | exact sub_nil | refine sub_cons rfl ?_)
          · rw [hst]; exact inferInstance
    · intro c3
      refine x_exit (e_then (e_then (e_block (n_then (x_seq (x_region (s_val rfl (v_move rfl) (s_val rfl (v_assign rfl) (x_nil (n_then (x_ret (x_done (.inl rfl) (.cons (r_tmp rfl) .nil) ?_))))))))))))
      have e1 := hend (by omega)
      rw [e1]
      exact ⟨_, ⟨rfl, rfl⟩, inferInstance⟩
theorem rcGather_spec (W0 : World) (R : List HP) (qv qs qm d c : Nat) (a : Option Addr) (fr : List Frm) (pg : List Pl) (h : Pgs pg) (hF : Frs fr) (l : List Dsc) (hs : SlA (OwnP W0 R) a 4 dsV l) (hl : ∀ x ∈ l, x.ok) (hn : l.length ≤ 1000) (most : Int) (hm : -9223372036854775808 ≤ most ∧ most < 9223372036854775808) :
    Spec Tryz.prog W0 109 [.pointer (some ⟨qv, 0, none⟩), .slice a l.length c, .int .i64 most] (pt qv (rvO qs qm d) :: rstoH qs fr :: pt qm (rgO pg) :: R)
      (fun v B => ∃ a' c', v = .slice a' (gthK fr pg l most l.length).length c' ∧ B = osl 5 1 (.slice a' (gthK fr pg l most l.length).length c') (byV (gthK fr pg l most l.length)) :: pt qv (rvO qs qm d) :: rstoH qs fr :: pt qm (rgO pg) :: R) := by
  refine spec_body Tryz.func109 Tryz.ntmps109 rfl rfl ?_
  refine x_seq (x_region (s_val rfl (v_assign rfl) (x_nil (n_then (x_seq (x_region (s_val rfl (v_assign rfl) (x_nil (n_then (x_seq (x_seq (x_region (s_val rfl (v_assign rfl) (x_nil (n_then (x_block ?_))))))))))))))))
  refine x_loop (fun X : Nat × Option Addr × Nat => X.1 ≤ l.length) (fun X => [(0, .pointer (some ⟨qv, 0, none⟩)), (1, .slice a l.length c), (2, .int .i64 most), (7, .slice X.2.1 (gthK fr pg l most X.1).length X.2.2), (8, .int .i64 X.1)]) (fun X => osl 5 1 (.slice X.2.1 (gthK fr pg l most X.1).length X.2.2) (byV (gthK fr pg l most X.1)) :: pt qv (rvO qs qm d) :: rstoH qs fr :: pt qm (rgO pg) :: R) (fun X => l.length - X.1) (0, none, 0) ?_ ?_ ?_ ?_
  · simp
  · repeat (first | exact sub_nil | refine sub_cons rfl ?_)
  · exact ent_osl_nil
  · intro ⟨i, a0, c0⟩ hi
    dsimp only at hi ⊢
    obtain ⟨hg1, hg2⟩ := gthK_len fr pg l most i
    refine x_seq (x_seq (x_region (s_val rfl (v_move rfl) (s_val rfl (v_move rfl) (s_val rfl (v_len_slice Tryz.underlying43 rfl) (s_val rfl (v_lss rfl rfl) (x_nil (n_then ?_))))))))
    refine x_if rfl ?_ ?_
    · intro c3
      refine x_skip (n_then (x_seq (x_block (x_seq (x_seq ?_)))))
      have hi1 : i < l.length := by omega
      obtain ⟨g, o, rfl, hc⟩ := hs.at_ hi1
      have hd := hl _ (List.getElem_mem hi1)
      have hgd : l.getD i zD = l[i] := by simp [List.getD, hi1]
      have ha := hd.addr
      have hle := hd.len
      refine x_region (s_val rfl (v_move rfl) (s_val rfl (v_move rfl) ?_))
      refine s_val rfl (v_idx Tryz.underlying43 Tryz.sizeOf99 rfl rfl rfl hi1 (by first | exact Nat.zero_add _ | rfl)) ?_
      refine s_val rfl (v_loadAgg Tryz.isAgg99 Tryz.sizeOf99 rfl hc.weak rfl) ?_
      refine s_do rfl (d_call Tryz.call191 rfl (rcWrites_spec W0 _ l[i] hd)) ?_
      rintro _ B_ ⟨rfl, hB_⟩
      obtain rfl := hB_.symm
      refine x_nil (n_then ?_)
      refine x_if rfl ?_ ?_
      · intro c5
        have hst : gthK fr pg l most (i + 1) = gthK fr pg l most i := by rw [gthK]; simp only [hgd]; rw [if_pos c5]
        obtain ⟨a1, rfl⟩ : ∃ x, x = a0 := ⟨a0, rfl⟩
        obtain ⟨c1, rfl⟩ : ∃ x, x = c0 := ⟨c0, rfl⟩
        refine x_exit (e_then (e_block (n_then ?_)))
        skip
        refine x_region (s_val rfl (v_move rfl) ?_)
        refine s_val rfl (v_add rfl rfl (by first | exact w64 (by omega) | rfl)) ?_
        refine s_val rfl (v_assign rfl) (x_nil (n_then ?_))
        refine inv_intro (i + 1, a1, c1) ?_ ?_ ?_ ?_
        · omega
        · omega
        · dsimp only
          rw [hst]
          first
            | (repeat (first | exact sub_nil | refine sub_cons rfl ?_)
               done)
            | (have e3 : X.take (roomN most G.length) = X.take k := by
                 rcases Nat.lt_or_ge k X.length with q | q
                 · congr 1; omega
                 · rw [List.take_of_length_le (by omega), List.take_of_length_le q]
               rw [e3, List.length_append, List.length_take, Nat.min_eq_left hk1]
               repeat (first | exact sub_nil | refine sub_cons rfl ?_))
        · dsimp only
          rw [hst]
          first
            | exact inferInstance
            | (have e3 : X.take (roomN most G.length) = X.take k := by
                 rcases Nat.lt_or_ge k X.length with q | q
                 · congr 1; omega
                 · rw [List.take_of_length_le (by omega), List.take_of_length_le q]
               rw [e3, List.length_append, List.length_take, Nat.min_eq_left hk1]
               exact inferInstance)
      · intro c5
        have hst : gthK fr pg l most (i + 1) = gthK fr pg l most i ++ (rdO fr pg l[i].addr l[i].len).take (roomN most (gthK fr pg l most i).length) := by rw [gthK]; simp only [hgd]; rw [if_neg c5]
        have hr5 := rdO_len (fr := fr) (pg := pg) (pa := l[i].addr) (n := l[i].len)
        have hrm : roomN most (gthK fr pg l most i).length = (most - ((gthK fr pg l most i).length : Int)).toNat := rfl
        refine x_skip (n_then (x_seq ?_))
        refine x_draw [(g, o + i * 4, dsV l[i])] 18 mixed rfl (sc_cons hc.weak sc_end) (fun hS => ?_)
        refine d_take 0 rfl rfl (by kernel_rfl) (by kernel_rfl) (by kernel_rfl) rfl hS (v_move rfl) ?_
        refine d_take 1 rfl rfl (by kernel_rfl) (by kernel_rfl) (by kernel_rfl) rfl hS (v_move rfl) ?_
        refine d_take 2 rfl rfl (by kernel_rfl) (by kernel_rfl) (by kernel_rfl) rfl hS (v_move rfl) ?_
        refine d_take 3 rfl rfl (by kernel_rfl) (by kernel_rfl) (by kernel_rfl) rfl hS (v_idx Tryz.underlying43 Tryz.sizeOf99 rfl rfl rfl hi1 (by first | exact Nat.zero_add _ | rfl)) ?_
        refine d_take 4 rfl rfl (by kernel_rfl) (by kernel_rfl) (by kernel_rfl) rfl hS (v_fieldAddr rfl Tryz.underlying99 rfl Tryz.sizeOf47 rfl (by first | exact Nat.zero_add _ | rfl)) ?_
        refine d_take 5 rfl rfl (by kernel_rfl) (by kernel_rfl) (by kernel_rfl) rfl hS (v_load Tryz.isAgg47 rfl (cell_sc (k := 0) (j := 0) rfl rfl)) ?_
        refine d_take 6 rfl rfl (by kernel_rfl) (by kernel_rfl) (by kernel_rfl) rfl hS (v_move rfl) ?_
        refine d_take 7 rfl rfl (by kernel_rfl) (by kernel_rfl) (by kernel_rfl) rfl hS (v_move rfl) ?_
        refine d_take 8 rfl rfl (by kernel_rfl) (by kernel_rfl) (by kernel_rfl) rfl hS (v_idx Tryz.underlying43 Tryz.sizeOf99 rfl rfl rfl hi1 (by first | exact Nat.zero_add _ | rfl)) ?_
        refine d_take 9 rfl rfl (by kernel_rfl) (by kernel_rfl) (by kernel_rfl) rfl hS (v_fieldAddr rfl Tryz.underlying99 rfl Tryz.sizeOf47 rfl (by first | exact Nat.zero_add _ | rfl)) ?_
        refine d_take 10 rfl rfl (by kernel_rfl) (by kernel_rfl) (by kernel_rfl) rfl hS (v_load Tryz.isAgg47 rfl (cell_sc (k := 0) (j := 1) rfl rfl)) ?_
        refine d_take 11 rfl rfl (by kernel_rfl) (by kernel_rfl) (by kernel_rfl) rfl hS (v_conv Tryz.underlying47 Tryz.underlying3 rfl (w64 (by omega))) ?_
        refine d_one 12 (by kernel_rfl) rfl rfl (d_call3 Tryz.call192 rfl (rvRead_spec W0 _ qv qs qm d fr pg h hF l[i].addr ha l[i].len)) rfl ?_; clear hS
        rintro _ B_ ⟨a2, c2, rfl, hB_⟩
        obtain rfl := hB_.symm
        generalize hX : rdO fr pg l[i].addr l[i].len = X at hst hr5
        generalize hG : gthK fr pg l most i = G at hst hg1 hg2 hrm
        refine ⟨(sc_cons hc.weak sc_end), fun hS => ?_⟩
        refine d_take 13 rfl rfl (by kernel_rfl) (by kernel_rfl) (by kernel_rfl) rfl hS (v_move rfl) ?_
        refine d_take 14 rfl rfl (by kernel_rfl) (by kernel_rfl) (by kernel_rfl) rfl hS (v_extract rfl rfl) ?_
        refine d_take 15 rfl rfl (by kernel_rfl) (by kernel_rfl) (by kernel_rfl) rfl hS (v_extract rfl rfl) ?_
        refine d_take 16 rfl rfl (by kernel_rfl) (by kernel_rfl) (by kernel_rfl) rfl hS (v_assign rfl) ?_
        refine d_take 17 rfl rfl (by kernel_rfl) (by kernel_rfl) (by kernel_rfl) rfl hS (v_assign rfl) ?_
        refine d_done (by kernel_rfl) ?_; clear hS
        refine n_then (x_seq ?_)
        refine run_form (E := 5) (sz := 1) (a := a2) (c := c2) (n := X.length) (fun hf2 => ?_)
        refine x_region (s_val rfl (v_assign rfl) (x_nil (n_then (x_block ?_))))
        refine x_loop (fun Y : Nat × Option Addr × Nat => Y.1 ≤ X.length ∧ Y.1 ≤ roomN most G.length) (fun Y => [(0, .pointer (some ⟨qv, 0, none⟩)), (1, .slice (some ⟨g, o, none⟩) l.length c), (2, .int .i64 most), (7, .slice Y.2.1 (G.length + Y.1) Y.2.2), (8, .int .i64 i), (9, .slice a2 X.length c2), (11, .int .i64 Y.1)]) (fun Y => osl 5 1 (.slice Y.2.1 (G.length + Y.1) Y.2.2) (byV (G ++ X.take Y.1)) :: osl 5 1 (.slice a2 X.length c2) (byV X) :: pt qv (rvO qs qm d) :: rstoH qs fr :: pt qm (rgO pg) :: R) (fun Y => X.length - Y.1) (0, a0, c0) ?_ ?_ ?_ ?_
        · exact ⟨Nat.zero_le _, Nat.zero_le _⟩
        · repeat (first | exact sub_nil | refine sub_cons rfl ?_)
        · simp only [List.take_zero, List.append_nil, Nat.add_zero]; exact inferInstance
        · intro ⟨k, a1, c1⟩ ⟨hk1, hk2⟩
          dsimp only at hk1 hk2 ⊢
          refine x_seq (x_seq (x_region (s_val rfl (v_move rfl) (s_val rfl (v_move rfl) (s_val rfl (v_len_slice Tryz.underlying44 rfl) (s_val rfl (v_lss rfl rfl) (s_val rfl (v_move rfl) ?_)))))))
          refine s_and rfl rfl rfl ?_ ?_
          · intro g8_5
            refine s_val rfl (v_move rfl) (s_yes rfl rfl (s_val rfl (v_len_slice Tryz.underlying44 rfl) (s_yes rfl rfl (s_val rfl (v_move rfl) (s_yes rfl rfl (s_val rfl (v_lss rfl rfl) (s_val rfl (v_pick_t rfl rfl) (x_nil (n_then ?_)))))))))
            refine x_if rfl ?_ ?_
            · intro c8
              refine x_skip (n_then (x_seq (x_block ?_)))
              have hkX : k < X.length := by omega
              obtain ⟨g2, rfl⟩ := form_some hf2 (byV_ne (by omega))
              refine x_region (s_val rfl (v_move rfl) (s_val rfl (v_move rfl) (s_val rfl (v_move rfl) ?_)))
              refine s_val rfl (v_idx Tryz.underlying44 Tryz.sizeOf5 rfl rfl rfl hkX (by first | exact Nat.zero_add _ | rfl)) ?_
              refine s_val rfl (v_load Tryz.isAgg5 rfl (by rw [Nat.mul_one]; exact cell_osl (E := 5) (sz := 1) (n := X.length) (c := c2) (byV_get X k hkX))) ?_
              refine s_do rfl (d_sliceLit Tryz.underlying44 Tryz.sizeOf5 Tryz.zeroValue5 rfl rfl rfl rfl rfl (by decide) (by decide)) ?_
              rintro _ _ ⟨b1, rfl, rfl⟩
              refine s_do rfl (d_append (sz := 1) (by_ := 1) (info := Tryz.t5) Tryz.underlying44 (by kernel_rfl) rfl rfl rfl rfl (by decide) rfl rfl cells_all rfl rfl (by simp only [maxLen]; omega) (by omega)) ?_
              rintro _ _ ⟨a3, c3, rfl, rfl⟩
              refine s_val rfl (v_assign rfl) (x_nil (n_block (n_then (x_region (s_val rfl (v_move rfl) ?_)))))
              refine s_val rfl (v_add rfl rfl (by first | exact w64 (by omega) | rfl)) ?_
              refine s_val rfl (v_assign rfl) (x_nil (n_then ?_))
              refine inv_intro (k + 1, a3, c3) ?_ ?_ ?_ ?_
              · exact ⟨by omega, by omega⟩
              · omega
              · repeat (first | exact sub_nil | refine sub_cons rfl ?_)
              · dsimp only
                rw [List.take_succ_eq_append_getElem hkX, ← List.append_assoc, byV_append (G ++ X.take k), ← Nat.add_assoc, show byV [X[k]] = [bV X[k]] from rfl]
                exact inferInstance
            · intro c8
              refine x_exit (e_then (e_then (e_block (n_block (n_then ?_)))))
              skip
              refine x_region (s_val rfl (v_move rfl) ?_)
              refine s_val rfl (v_add rfl rfl (by first | exact w64 (by omega) | rfl)) ?_
              refine s_val rfl (v_assign rfl) (x_nil (n_then ?_))
              refine inv_intro (i + 1, a1, c1) ?_ ?_ ?_ ?_
              · omega
              · omega
              · dsimp only
                rw [hst]
                first
                  | (repeat (first | exact sub_nil | refine sub_cons rfl ?_)
                     done)
                  | (have e3 : X.take (roomN most G.length) = X.take k := by
                       rcases Nat.lt_or_ge k X.length with q | q
                       · congr 1; omega
                       · rw [List.take_of_length_le (by omega), List.take_of_length_le q]
                     rw [e3, List.length_append, List.length_take, Nat.min_eq_left hk1]
                     repeat (first | exact sub_nil | refine sub_cons rfl ?_))
              · dsimp only
                rw [hst]
                first
                  | exact inferInstance
                  | (have e3 : X.take (roomN most G.length) = X.take k := by
                       rcases Nat.lt_or_ge k X.length with q | q
                       · congr 1; omega
                       · rw [List.take_of_length_le (by omega), List.take_of_length_le q]
                     rw [e3, List.length_append, List.length_take, Nat.min_eq_left hk1]
                     exact inferInstance)
          · intro g8_5
            refine s_no rfl rfl rfl rfl (s_no rfl rfl rfl rfl (s_no rfl rfl rfl rfl (s_val rfl (v_pick_f rfl rfl) (x_nil (n_then (x_iff rfl (x_exit (e_then (e_then (e_block (n_block (n_then ?_))))))))))))
            skip
            refine x_region (s_val rfl (v_move rfl) ?_)
            refine s_val rfl (v_add rfl rfl (by first | exact w64 (by omega) | rfl)) ?_
            refine s_val rfl (v_assign rfl) (x_nil (n_then ?_))
            refine inv_intro (i + 1, a1, c1) ?_ ?_ ?_ ?_
            · omega
            · omega
            · dsimp only
              rw [hst]
              first
                | (repeat (first | exact sub_nil | refine sub_cons rfl ?_)
                   done)
                | (have e3 : X.take (roomN most G.length) = X.take k := by
                     rcases Nat.lt_or_ge k X.length with q | q
                     · congr 1; omega
                     · rw [List.take_of_length_le (by omega), List.take_of_length_le q]
                   rw [e3, List.length_append, List.length_take, Nat.min_eq_left hk1]
                   repeat (first | exact sub_nil | refine sub_cons rfl ?_))
            · dsimp only
              rw [hst]
              first
                | exact inferInstance
                | (have e3 : X.take (roomN most G.length) = X.take k := by
                     rcases Nat.lt_or_ge k X.length with q | q
                     · congr 1; omega
                     · rw [List.take_of_length_le (by omega), List.take_of_length_le q]
                   rw [e3, List.length_append, List.length_take, Nat.min_eq_left hk1]
                   exact inferInstance)
    · intro c3
      refine x_exit (e_then (e_then (e_block (n_then (x_seq (x_region (s_val rfl (v_move rfl) (s_val rfl (v_assign rfl) (x_nil (n_then (x_ret (x_done (.inl rfl) (.cons (r_tmp rfl) .nil) ?_))))))))))))
      have e1 : i = l.length := by omega
      subst e1
      exact ⟨_, ⟨a0, c0, rfl, rfl⟩, inferInstance⟩
end Go.Proofs.YtlnmofhehcilhaaGreat
namespace Go.Proofs.YtlnmofhehcilhaaGreat
open Go.RowKit
set_option linter.unusedSimpArgs false
set_option linter.unusedVariables false
set_option maxRecDepth 20000
end Go.Proofs.YtlnmofhehcilhaaGreat
namespace Go.Proofs.YtlnmofhehcilhaaGreat
open Go.RowKit
set_option linter.unusedSimpArgs false
set_option linter.unusedVariables false
set_option maxRecDepth 20000
theorem getN_wd {l : List Nat} {k : Nat} (h : 4 * k + 4 ≤ l.length) : getN l ((4 * k : Nat) : Int) 4 = wdAt l k := by
  rw [getN, if_pos (inB_iff.2 (by omega)), Int.toNat_natCast]; rfl
theorem rWords_spec (W0 : World) (R : List HP) (a : Option Addr) (c : Nat) (l : List Nat) (hs : SlA (OwnP W0 R) a 1 (fun x => [bV x]) l) (hb : By l) (hcap : l.length ≤ c) (hl : l.length ≤ 1000000) (hc63 : c < 9223372036854775808) :
    Spec Tryz.prog W0 146 [.slice a l.length c] R (fun v B => ∃ a' c', v = .slice a' (l.length / 4) c' ∧ B = osl 47 1 (.slice a' (l.length / 4) c') (wordsV l (l.length / 4)) :: R) := by
  refine spec_body Tryz.func146 Tryz.ntmps146 rfl rfl ?_
  refine x_seq (x_region (s_val rfl (v_assign rfl) (x_nil (n_then (x_seq (x_region (s_val rfl (v_assign rfl) (x_nil (n_then (x_seq (x_seq (x_region (s_val rfl (v_assign rfl) (x_nil (n_then (x_block ?_))))))))))))))))
  refine x_loop (fun x : Nat × Option Addr × Nat => x.1 ≤ l.length / 4) (fun x => [(0, .slice a l.length c), (3, .slice x.2.1 x.1 x.2.2), (4, .int .i64 (4 * x.1 : Nat))]) (fun x => osl 47 1 (.slice x.2.1 x.1 x.2.2) (wordsV l x.1) :: R) (fun x => l.length / 4 - x.1) (0, none, 0) ?_ ?_ ?_ ?_
  · simp
  · repeat (first | exact sub_nil | refine sub_cons rfl ?_)
  · exact ent_osl_nil
  · intro ⟨i, a1, c1⟩ hi
    dsimp only at hi ⊢
    refine x_seq (x_seq (x_region (s_val rfl (v_move rfl) ?_)))
    refine s_val rfl (v_add rfl rfl (by first | exact w64 (by omega) | rfl)) ?_
    refine s_val rfl (v_move rfl) (s_val rfl (v_len_slice Tryz.underlying44 rfl) (s_val rfl (v_leq rfl rfl) (x_nil (n_then ?_))))
    refine x_if rfl ?_ ?_
    · intro c3
      refine x_skip (n_then (x_seq (x_block (x_seq ?_))))
      obtain ⟨g, off, rfl, hc⟩ := hs.all (by intro h0; subst h0; simp at *; omega) (fun _ => rfl)
      rw [byV_fm] at hc
      refine x_region (s_val rfl (v_move rfl) (s_val rfl (v_move rfl) (s_do rfl (d_call Tryz.call110 rfl (refGet02_spec W0 _ g off c l ((4 * i : Nat) : Int) 4 hc.weak hb hcap hc63)) ?_)))
      rintro _ B_ ⟨rfl, hB_⟩
      obtain rfl := hB_.symm
      rw [getN_wd (by omega)]
      refine s_val rfl (v_move rfl) (s_val rfl (v_extract rfl rfl) (s_val rfl (v_extract rfl rfl) (s_val rfl (v_assign rfl) (s_val rfl (v_assign rfl) (x_nil (n_then (x_region (s_val rfl (v_move rfl) (s_val rfl (v_move rfl) ?_)))))))))
      refine s_do rfl (d_sliceLit Tryz.underlying45 Tryz.sizeOf47 Tryz.zeroValue47 rfl rfl rfl rfl rfl (by decide) (by decide)) ?_
      rintro _ _ ⟨b1, rfl, rfl⟩
      refine s_do rfl (d_append (sz := 1) (by_ := 4) (info := Tryz.t47) Tryz.underlying45 (by kernel_rfl) rfl rfl rfl rfl (by decide) rfl rfl cells_all rfl rfl (by simp only [maxLen]; omega) (by omega)) ?_
      rintro _ _ ⟨a2, c2, rfl, rfl⟩
      refine s_val rfl (v_assign rfl) (x_nil (n_block (n_then (x_region (s_val rfl (v_move rfl) ?_)))))
      refine s_val rfl (v_add rfl rfl (by rw [w64 (by omega)]; omega : IntKind.wrap .i64 (((4 * i : Nat) : Int) + 4) = ((4 * (i + 1) : Nat) : Int))) ?_
      refine s_val rfl (v_assign rfl) (x_nil (n_then ?_))
      refine inv_intro (i + 1, a2, c2) ?_ ?_ ?_ ?_
      · omega
      · omega
      · repeat (first | exact sub_nil | refine sub_cons rfl ?_)
      · rw [wordsV_succ]
        show Ent _ (osl 47 1 (.slice a2 (i + 1) c2) (wordsV l i ++ [.int .u32 ((wdAt l i : Nat) : Int)]) :: R)
        exact inferInstance
    · intro c3
      refine x_exit (e_then (e_then (e_block (n_then (x_seq (x_region (s_val rfl (v_move rfl) (s_val rfl (v_assign rfl) (x_nil (n_then (x_ret (x_done (.inl rfl) (.cons (r_tmp rfl) .nil) ?_))))))))))))
      have e1 : i = l.length / 4 := by omega
      subst e1
      exact ⟨_, ⟨a1, c1, rfl, rfl⟩, inferInstance⟩
theorem rdGet_spec (W0 : World) (R : List HP) (a : Option Addr) (c : Nat) (l : List Nat) (hs : SlA (OwnP W0 R) a 1 (fun x => [bV x]) l) (hb : By l) (hcap : l.length ≤ c) (hl : l.length ≤ 1000000) (hc63 : c < 9223372036854775808) :
    Spec Tryz.prog W0 279 [.slice a l.length c] R (fun v B => v = .tuple #[.agg (dsV (if l.length = 16 then dsOf l else zD)).toArray, .int .i64 (if l.length = 16 then 0 else 6)] ∧ B = R) := by
  refine spec_body Tryz.func279 Tryz.ntmps279 rfl rfl ?_
  refine x_seq (x_region (s_do rfl (d_allocA Tryz.zeroValue99) ?_))
  rintro _ _ ⟨b1, rfl, rfl⟩
  refine s_val rfl (v_assign rfl) (x_nil (n_then (x_seq (x_seq (x_region (s_val rfl (v_move rfl) (s_val rfl (v_len_slice Tryz.underlying44 rfl) (s_val rfl (v_neq rfl rfl) (x_nil (n_then ?_))))))))))
  refine x_if rfl ?_ ?_
  · intro c1
    refine x_seq (x_region (s_val rfl (v_build Tryz.underlying99 Tryz.zeroValue99 (sized_cons Tryz.sizeOf47 (sized_cons Tryz.sizeOf47 (sized_cons Tryz.sizeOf47 (sized_cons Tryz.sizeOf47 sized_nil)))) fil_nil) ?_))
    refine s_do0 (d_storeAll Tryz.sizeOf99 rfl rfl rfl rfl rfl) ?_
    rintro _ _ rfl
    refine s_val rfl (v_assign rfl) (x_nil (n_then (x_ret (r_then (x_done (.inl rfl) (.cons (r_all Tryz.isAgg99 Tryz.sizeOf99 rfl rfl) (.cons (r_tmp rfl) .nil)) ?_)))))
    refine ⟨_, ⟨?_, rfl⟩, inferInstance⟩
    have h16 : ¬ l.length = 16 := by omega
    simp [pack, h16, zD]
  · intro c1
    have h16 : l.length = 16 := by omega
    refine x_skip (n_then (x_seq (x_region (s_val rfl (v_move rfl) (s_do rfl (d_call Tryz.call146 rfl (rWords_spec W0 _ a c l (SlA.weak hs) hb hcap hl hc63)) ?_)))))
    rintro _ B_ ⟨a', c', rfl, hB_⟩
    obtain rfl := hB_.symm
    rw [show l.length / 4 = 4 by rw [h16]]
    refine run_form (E := 47) (sz := 1) (a := a') (c := c') (n := 4) (fun hf => ?_)
    obtain ⟨g, rfl⟩ := form_some hf (by simp [wordsV])
    refine s_val rfl (v_assign rfl) (x_nil (n_then (x_seq ?_)))
    refine x_draw [(g, 0, wordsV l 4)] 15 mixed rfl (sc_cons (cells_osl (E := 47) (sz := 1) (a := some ⟨g, 0, none⟩) (c := c') (n := 4)) sc_end) (fun hS => ?_)
    refine d_take 0 rfl rfl (by kernel_rfl) (by kernel_rfl) (by kernel_rfl) rfl hS (v_move rfl) ?_
    refine d_take 1 rfl rfl (by kernel_rfl) (by kernel_rfl) (by kernel_rfl) rfl hS (v_idx Tryz.underlying45 Tryz.sizeOf47 rfl rfl rfl (by decide) (by first | exact Nat.zero_add _ | rfl)) ?_
    refine d_take 2 rfl rfl (by kernel_rfl) (by kernel_rfl) (by kernel_rfl) rfl hS (v_load Tryz.isAgg47 rfl (cell_sc0 (k := 0) rfl rfl)) ?_
    refine d_take 3 rfl rfl (by kernel_rfl) (by kernel_rfl) (by kernel_rfl) rfl hS (v_move rfl) ?_
    refine d_take 4 rfl rfl (by kernel_rfl) (by kernel_rfl) (by kernel_rfl) rfl hS (v_idx Tryz.underlying45 Tryz.sizeOf47 rfl rfl rfl (by decide) (by first | exact Nat.zero_add _ | rfl)) ?_
    refine d_take 5 rfl rfl (by kernel_rfl) (by kernel_rfl) (by kernel_rfl) rfl hS (v_load Tryz.isAgg47 rfl (cell_sc0 (k := 0) rfl rfl)) ?_
    refine d_take 6 rfl rfl (by kernel_rfl) (by kernel_rfl) (by kernel_rfl) rfl hS (v_move rfl) ?_
    refine d_take 7 rfl rfl (by kernel_rfl) (by kernel_rfl) (by kernel_rfl) rfl hS (v_idx Tryz.underlying45 Tryz.sizeOf47 rfl rfl rfl (by decide) (by first | exact Nat.zero_add _ | rfl)) ?_
    refine d_take 8 rfl rfl (by kernel_rfl) (by kernel_rfl) (by kernel_rfl) rfl hS (v_load Tryz.isAgg47 rfl (cell_sc0 (k := 0) rfl rfl)) ?_
    refine d_take 9 rfl rfl (by kernel_rfl) (by kernel_rfl) (by kernel_rfl) rfl hS (v_move rfl) ?_
    refine d_take 10 rfl rfl (by kernel_rfl) (by kernel_rfl) (by kernel_rfl) rfl hS (v_idx Tryz.underlying45 Tryz.sizeOf47 rfl rfl rfl (by decide) (by first | exact Nat.zero_add _ | rfl)) ?_
    refine d_take 11 rfl rfl (by kernel_rfl) (by kernel_rfl) (by kernel_rfl) rfl hS (v_load Tryz.isAgg47 rfl (cell_sc0 (k := 0) rfl rfl)) ?_
    refine d_take 12 rfl rfl (by kernel_rfl) (by kernel_rfl) (by kernel_rfl) rfl hS (v_build Tryz.underlying99 Tryz.zeroValue99 (sized_cons Tryz.sizeOf47 (sized_cons Tryz.sizeOf47 (sized_cons Tryz.sizeOf47 (sized_cons Tryz.sizeOf47 sized_nil)))) (fil_scal rfl Tryz.sizeOf47 rfl rfl (Nat.le_of_ble_eq_true rfl) SetL.eq (fil_scal rfl Tryz.sizeOf47 rfl rfl (Nat.le_of_ble_eq_true rfl) SetL.eq (fil_scal rfl Tryz.sizeOf47 rfl rfl (Nat.le_of_ble_eq_true rfl) SetL.eq (fil_scal rfl Tryz.sizeOf47 rfl rfl (Nat.le_of_ble_eq_true rfl) SetL.eq fil_nil))))) ?_
    refine d_one 13 (by kernel_rfl) rfl rfl (d_storeAll Tryz.sizeOf99 rfl rfl rfl rfl rfl) rfl ?_; clear hS
    rintro _ _ rfl
    refine ⟨(sc_cons (cells_osl (E := 47) (sz := 1) (a := some ⟨g, 0, none⟩) (c := c') (n := 4)) sc_end), fun hS => ?_⟩
    refine d_take 14 rfl rfl (by kernel_rfl) (by kernel_rfl) (by kernel_rfl) rfl hS (v_assign rfl) ?_
    refine d_done (by kernel_rfl) ?_; clear hS
    refine n_then (x_ret (x_done (.inl rfl) (.cons (r_all Tryz.isAgg99 Tryz.sizeOf99 rfl rfl) (.cons (r_tmp rfl) .nil)) ?_))
    refine ⟨_, ⟨?_, rfl⟩, inferInstance⟩
    rw [if_pos h16, if_pos h16]; rfl
theorem rdCheck_spec (W0 : World) (R : List HP) (d : Dsc) (hd : d.ok) (n : Nat) (hn : n < 9223372036854775808) : Spec Tryz.prog W0 280 [.agg (dsV d).toArray, .int .i64 n] R (fun v B => v = .int .i64 (chkC d n) ∧ B = R) := by
  have h1 := hd.flags
  have h2 := hd.next
  refine spec_body Tryz.func280 Tryz.ntmps280 rfl rfl ?_
  refine x_seq (x_region (s_do rfl (d_boxA rfl) ?_))
  rintro _ _ ⟨b1, rfl, rfl⟩
  refine s_val rfl (v_assign rfl) (x_nil (n_then (x_seq (x_seq (x_region ?_)))))
  refine s_val rfl (v_fieldAddr rfl Tryz.underlying99 rfl Tryz.sizeOf47 rfl (by first | exact Nat.zero_add _ | rfl)) ?_
  refine s_val rfl (v_load Tryz.isAgg47 rfl (cell_own rfl)) ?_
  refine s_val rfl (v_gtr rfl rfl) (x_nil (n_then ?_))
  refine x_if rfl ?_ ?_
  · intro c1
    refine x_seq (x_region (s_val rfl (v_assign rfl) (x_nil (n_then (x_ret (r_then (x_done (.inl rfl) (.cons (r_tmp rfl) .nil) ?_)))))))
    refine ⟨_, ⟨?_, rfl⟩, inferInstance⟩
    simp only [pack, chkC]; rw [if_pos (by omega)]
  · intro c1
    refine x_skip (n_then (x_seq (x_seq (x_region ?_))))
    refine s_val rfl (v_fieldAddr rfl Tryz.underlying99 rfl Tryz.sizeOf47 rfl (by first | exact Nat.zero_add _ | rfl)) ?_
    refine s_val rfl (v_load Tryz.isAgg47 rfl (cell_own rfl)) ?_
    refine s_val rfl (v_gtr rfl rfl) (x_nil (n_then ?_))
    refine x_if rfl ?_ ?_
    · intro c3
      refine x_seq (x_region (s_val rfl (v_assign rfl) (x_nil (n_then (x_ret (r_then (x_done (.inl rfl) (.cons (r_tmp rfl) .nil) ?_)))))))
      refine ⟨_, ⟨?_, rfl⟩, inferInstance⟩
      simp only [pack, chkC]; rw [if_neg (by omega), if_pos (by omega)]
    · intro c3
      refine x_skip (n_then (x_seq (x_seq (x_region ?_))))
      refine s_val rfl (v_fieldAddr rfl Tryz.underlying99 rfl Tryz.sizeOf47 rfl (by first | exact Nat.zero_add _ | rfl)) ?_
      refine s_val rfl (v_load Tryz.isAgg47 rfl (cell_own rfl)) ?_
      refine s_val rfl (v_rem rfl rfl (by decide) (tmodN d.flags 2)) ?_
      refine s_val rfl (v_eql rfl rfl) (s_val rfl (v_move rfl) ?_)
      refine s_and rfl rfl rfl ?_ ?_
      · intro g5_5
        refine s_val rfl (v_fieldAddr rfl Tryz.underlying99 rfl Tryz.sizeOf47 rfl (by first | exact Nat.zero_add _ | rfl)) ?_
        refine s_yes rfl rfl (s_val rfl (v_load Tryz.isAgg47 rfl (cell_own rfl)) ?_)
        refine s_yes rfl rfl ?_
        refine s_val rfl (v_conv Tryz.underlying47 Tryz.underlying3 rfl (w64 (by omega))) ?_
        refine s_yes rfl rfl (s_val rfl (v_move rfl) (s_yes rfl rfl (s_val rfl (v_geq rfl rfl) (s_val rfl (v_pick_t rfl rfl) (x_nil (n_then ?_))))))
        refine x_if rfl ?_ ?_
        · intro c5
          refine x_seq (x_region (s_val rfl (v_assign rfl) (x_nil (n_then (x_ret (r_then (x_done (.inl rfl) (.cons (r_tmp rfl) .nil) ?_)))))))
          refine ⟨_, ⟨?_, rfl⟩, inferInstance⟩
          simp only [pack, chkC]; rw [if_neg (by omega), if_neg (by omega), if_pos (by omega)]
        · intro c5
          refine x_skip (n_then (x_seq (x_region (s_val rfl (v_assign rfl) (x_nil (n_then (x_ret (x_done (.inl rfl) (.cons (r_tmp rfl) .nil) ?_))))))))
          refine ⟨_, ⟨?_, rfl⟩, inferInstance⟩
          simp only [pack, chkC]; rw [if_neg (by omega), if_neg (by omega), if_neg (by omega)]
      · intro g5_5
        refine s_no rfl rfl rfl rfl (s_no rfl rfl rfl rfl (s_no rfl rfl rfl rfl (s_no rfl rfl rfl rfl (s_val rfl (v_pick_f rfl rfl) (x_nil (n_then (x_iff rfl (x_skip (n_then (x_seq (x_region (s_val rfl (v_assign rfl) (x_nil (n_then (x_ret (x_done (.inl rfl) (.cons (r_tmp rfl) .nil) ?_))))))))))))))))
        refine ⟨_, ⟨?_, rfl⟩, inferInstance⟩
        simp only [pack, chkC]; rw [if_neg (by omega), if_neg (by omega), if_neg (by omega)]
theorem rdSized_spec (W0 : World) (R : List HP) (n : Int) : Spec Tryz.prog W0 246 [.int .i64 n] R (fun v B => v = .bool (szd n) ∧ B = R) := by
  refine spec_body Tryz.func246 Tryz.ntmps246 rfl rfl ?_
  refine x_seq (x_region (s_val rfl (v_assign rfl) (x_nil (n_then (x_seq (x_region (s_val rfl (v_move rfl) (s_val rfl (v_eql rfl rfl) (s_val rfl (v_move rfl) ?_)))))))))
  refine s_or rfl rfl rfl ?_ ?_
  · intro g1_3
    refine s_no rfl rfl rfl rfl (s_val rfl (v_pick_t rfl rfl) (s_val rfl (v_move rfl) (s_no rfl rfl rfl rfl (s_no rfl rfl rfl rfl (s_val rfl (v_pick_t rfl rfl) (s_val rfl (v_assign rfl) (x_nil (n_then (x_ret (x_done (.inl rfl) (.cons (r_tmp rfl) .nil) ?_))))))))))
    refine ⟨_, ⟨?_, rfl⟩, inferInstance⟩
    refine congrArg Value.bool ?_
    rw [Bool.eq_iff_iff]; simp only [szd, decide_eq_true_iff, beq_iff_eq, Bool.true_eq_false, iff_true, true_iff]; omega
  · intro g1_3
    refine s_val rfl (v_move rfl) (s_yes rfl rfl (s_val rfl (v_eql rfl rfl) (s_val rfl (v_pick_f rfl rfl) (s_val rfl (v_move rfl) ?_))))
    refine s_or rfl rfl rfl ?_ ?_
    · intro g1_7
      refine s_no rfl rfl rfl rfl (s_val rfl (v_pick_t rfl rfl) (s_val rfl (v_assign rfl) (x_nil (n_then (x_ret (x_done (.inl rfl) (.cons (r_tmp rfl) .nil) ?_))))))
      refine ⟨_, ⟨?_, rfl⟩, inferInstance⟩
      refine congrArg Value.bool ?_
      rw [Bool.eq_iff_iff]; simp only [szd, decide_eq_true_iff, beq_iff_eq, Bool.true_eq_false, iff_true, true_iff]; omega
    · intro g1_7
      refine s_val rfl (v_move rfl) (s_yes rfl rfl (s_val rfl (v_eql rfl rfl) (s_val rfl (v_pick_f rfl rfl) (s_val rfl (v_assign rfl) (x_nil (n_then (x_ret (x_done (.inl rfl) (.cons (r_tmp rfl) .nil) ?_))))))))
      refine ⟨_, ⟨?_, rfl⟩, inferInstance⟩
      refine congrArg Value.bool ?_
      rw [Bool.eq_iff_iff]; simp only [szd, decide_eq_true_iff, beq_iff_eq, Bool.true_eq_false, iff_true, true_iff]; omega
theorem rgtB_iff {r : Rg3} : rgtB r = true ↔ (r.desc % 4 = 0 ∧ r.avail % 4 = 0 ∧ r.used % 4 = 0) ∧ szd r.n = true := by
  rw [rgtB, Bool.and_eq_true]; exact ⟨fun h => ⟨of_decide_eq_true h.1, h.2⟩, fun h => ⟨decide_eq_true h.1, h.2⟩⟩
theorem rdRight_spec (W0 : World) (R : List HP) (r : Rg3) : Spec Tryz.prog W0 182 [.agg (rgV r).toArray] R (fun v B => v = .bool (rgtB r) ∧ B = R) := by
  refine spec_body Tryz.func182 Tryz.ntmps182 rfl rfl ?_
  refine x_seq (x_region (s_do rfl (d_boxA rfl) ?_))
  rintro _ _ ⟨b1, rfl, rfl⟩
  refine s_val rfl (v_assign rfl) (x_nil (n_then (x_seq (x_region ?_))))
  refine s_val rfl (v_fieldAddr rfl Tryz.underlying71 rfl Tryz.sizeOf3 rfl (by first | exact Nat.zero_add _ | rfl)) ?_
  refine s_val rfl (v_load Tryz.isAgg3 rfl (cell_own rfl)) ?_
  refine s_do rfl (d_call Tryz.call246 rfl (rdSized_spec W0 _ r.n)) ?_
  rintro _ B_ ⟨rfl, hB_⟩
  obtain rfl := hB_.symm
  refine s_val rfl (v_move rfl) ?_
  refine s_and rfl rfl rfl ?_ ?_
  · intro g1_4
    refine s_val rfl (v_fieldAddr rfl Tryz.underlying71 rfl Tryz.sizeOf47 rfl (by first | exact Nat.zero_add _ | rfl)) ?_
    refine s_yes rfl rfl (s_val rfl (v_load Tryz.isAgg47 rfl (cell_own rfl)) ?_)
    refine s_yes rfl rfl ?_
    refine s_val rfl (v_rem rfl rfl (by decide) (tmodN r.desc 4)) ?_
    refine s_yes rfl rfl (s_val rfl (v_eql rfl rfl) (s_val rfl (v_pick_t rfl rfl) (s_val rfl (v_move rfl) ?_)))
    refine s_and rfl rfl rfl ?_ ?_
    · intro g1_10
      refine s_val rfl (v_fieldAddr rfl Tryz.underlying71 rfl Tryz.sizeOf47 rfl (by first | exact Nat.zero_add _ | rfl)) ?_
      refine s_yes rfl rfl (s_val rfl (v_load Tryz.isAgg47 rfl (cell_own rfl)) ?_)
      refine s_yes rfl rfl ?_
      refine s_val rfl (v_rem rfl rfl (by decide) (tmodN r.avail 4)) ?_
      refine s_yes rfl rfl (s_val rfl (v_eql rfl rfl) (s_val rfl (v_pick_t rfl rfl) (s_val rfl (v_move rfl) ?_)))
      refine s_and rfl rfl rfl ?_ ?_
      · intro g1_16
        refine s_val rfl (v_fieldAddr rfl Tryz.underlying71 rfl Tryz.sizeOf47 rfl (by first | exact Nat.zero_add _ | rfl)) ?_
        refine s_yes rfl rfl (s_val rfl (v_load Tryz.isAgg47 rfl (cell_own rfl)) ?_)
        refine s_yes rfl rfl ?_
        refine s_val rfl (v_rem rfl rfl (by decide) (tmodN r.used 4)) ?_
        refine s_yes rfl rfl (s_val rfl (v_eql rfl rfl) (s_val rfl (v_pick_t rfl rfl) (s_val rfl (v_assign rfl) (x_nil (n_then (x_ret (x_done (.inl rfl) (.cons (r_tmp rfl) .nil) ?_)))))))
        refine ⟨_, ⟨?_, rfl⟩, inferInstance⟩
        refine congrArg Value.bool ?_
        rw [Bool.eq_iff_iff, rgtB_iff]
        first
          | (rw [beq_iff_eq]; constructor
             · intro q; exact ⟨by omega, g1_4⟩
             · rintro ⟨q, _⟩; omega)
          | (constructor
             · intro q; cases q
             · rintro ⟨q1, q2⟩; first | exact absurd q2 g1_4 | (exfalso; omega))
      · intro g1_16
        refine s_no rfl rfl rfl rfl (s_no rfl rfl rfl rfl (s_no rfl rfl rfl rfl (s_val rfl (v_pick_f rfl rfl) (s_val rfl (v_assign rfl) (x_nil (n_then (x_ret (x_done (.inl rfl) (.cons (r_tmp rfl) .nil) ?_))))))))
        refine ⟨_, ⟨?_, rfl⟩, inferInstance⟩
        refine congrArg Value.bool ?_
        rw [Bool.eq_iff_iff, rgtB_iff]
        first
          | (rw [beq_iff_eq]; constructor
             · intro q; exact ⟨by omega, g1_4⟩
             · rintro ⟨q, _⟩; omega)
          | (constructor
             · intro q; cases q
             · rintro ⟨q1, q2⟩; first | exact absurd q2 g1_4 | (exfalso; omega))
    · intro g1_10
      refine s_no rfl rfl rfl rfl (s_no rfl rfl rfl rfl (s_no rfl rfl rfl rfl (s_val rfl (v_pick_f rfl rfl) (s_val rfl (v_move rfl) (s_no rfl rfl rfl rfl (s_no rfl rfl rfl rfl (s_no rfl rfl rfl rfl (s_no rfl rfl rfl rfl (s_val rfl (v_pick_f rfl rfl) (s_val rfl (v_assign rfl) (x_nil (n_then (x_ret (x_done (.inl rfl) (.cons (r_tmp rfl) .nil) ?_))))))))))))))
      refine ⟨_, ⟨?_, rfl⟩, inferInstance⟩
      refine congrArg Value.bool ?_
      rw [Bool.eq_iff_iff, rgtB_iff]
      first
        | (rw [beq_iff_eq]; constructor
           · intro q; exact ⟨by omega, g1_4⟩
           · rintro ⟨q, _⟩; omega)
        | (constructor
           · intro q; cases q
           · rintro ⟨q1, q2⟩; first | exact absurd q2 g1_4 | (exfalso; omega))
  · intro g1_4
    refine s_no rfl rfl rfl rfl (s_no rfl rfl rfl rfl (s_no rfl rfl rfl rfl (s_val rfl (v_pick_f rfl rfl) (s_val rfl (v_move rfl) (s_no rfl rfl rfl rfl (s_no rfl rfl rfl rfl (s_no rfl rfl rfl rfl (s_no rfl rfl rfl rfl (s_val rfl (v_pick_f rfl rfl) (s_val rfl (v_move rfl) (s_no rfl rfl rfl rfl (s_no rfl rfl rfl rfl (s_no rfl rfl rfl rfl (s_no rfl rfl rfl rfl (s_val rfl (v_pick_f rfl rfl) (s_val rfl (v_assign rfl) (x_nil (n_then (x_ret (x_done (.inl rfl) (.cons (r_tmp rfl) .nil) ?_))))))))))))))))))))
    refine ⟨_, ⟨?_, rfl⟩, inferInstance⟩
    refine congrArg Value.bool ?_
    rw [Bool.eq_iff_iff, rgtB_iff]
    first
      | (rw [beq_iff_eq]; constructor
         · intro q; exact ⟨by omega, g1_4⟩
         · rintro ⟨q, _⟩; omega)
      | (constructor
         · intro q; cases q
         · rintro ⟨q1, q2⟩; first | exact absurd q2 g1_4 | (exfalso; omega))
theorem lk_flags {fr : List Frm} {pg : List Pl} {r : Rg3} {at_ : Int} {n : Nat} {wr : Bool} (h : (lk fr pg r at_ n wr).2 = 0) : (lk fr pg r at_ n wr).1.flags < 4 := by
  unfold lk at h ⊢
  by_cases q1 : at_ < 0 ∨ r.n ≤ at_
  · rw [if_pos q1] at h; exact absurd h (by decide)
  rw [if_neg q1] at h ⊢
  by_cases q2 : r.n ≤ (n : Int)
  · rw [if_pos q2] at h; exact absurd h (by decide)
  rw [if_neg q2] at h ⊢
  by_cases q3 : ownB fr.length pg (dsPa r at_.toNat) 16 = false
  · rw [if_pos q3] at h; exact absurd h (by decide)
  rw [if_neg q3] at h ⊢
  by_cases q4 : chkC (dsAt fr pg r at_.toNat) r.n.toNat ≠ 0
  · rw [if_pos q4] at h; exact absurd h q4
  rw [if_neg q4] at h ⊢
  by_cases q5 : ownB fr.length pg (dsAt fr pg r at_.toNat).addr (dsAt fr pg r at_.toNat).len = false
  · rw [if_pos q5] at h; exact absurd h (by decide)
  rw [if_neg q5] at h ⊢
  by_cases q6 : wr = true ∧ wrB (dsAt fr pg r at_.toNat) = false
  · rw [if_pos q6] at h; exact absurd h (by decide)
  rw [if_neg q6]
  simp only
  rcases Nat.lt_or_ge (dsAt fr pg r at_.toNat).flags 4 with q | q
  · exact q
  · exact absurd (by rw [chkC, if_pos q]; decide) q4
abbrev rvw (qv qs qm d : Nat) (fr : List Frm) (pg : List Pl) (R : List HP) : List HP := pt qv (rvO qs qm d) :: rstoH qs fr :: pt qm (rgO pg) :: R
theorem rcWrong_spec (W0 : World) (R : List HP) (qv qs qm d : Nat) (fr : List Frm) (pg : List Pl) (h : Pgs pg) (hF : Frs fr) (r : Rg3) (hr : r.ok) (hn8 : r.n ≤ 8) (wr : Bool) (at_ : Int) (n : Nat) :
    Spec Tryz.prog W0 254 [.pointer (some ⟨qv, 0, none⟩), .agg (rgV r).toArray, .int .i64 at_, .int .i64 n, .bool wr] (rvw qv qs qm d fr pg R)
      (fun v B => v = .tuple #[.agg (dsV (lk fr pg r at_ n wr).1).toArray, .int .i64 (lk fr pg r at_ n wr).2] ∧ B = rvw qv qs qm d fr pg R) := by
  have hrd := hr.desc
  refine spec_body Tryz.func254 Tryz.ntmps254 rfl rfl ?_
  refine x_seq (x_region (s_do rfl (d_boxA rfl) ?_))
  rintro _ _ ⟨b1, rfl, rfl⟩
  refine s_do rfl (d_allocA Tryz.zeroValue99) ?_
  rintro _ _ ⟨b2, rfl, rfl⟩
  refine s_val rfl (v_assign rfl) (x_nil (n_then (x_seq (x_seq (x_region (s_val rfl (v_move rfl) (s_val rfl (v_lss rfl rfl) (s_val rfl (v_move rfl) ?_))))))))
  refine s_or rfl rfl rfl ?_ ?_
  · intro g1_3
    refine s_no rfl rfl rfl rfl (s_no rfl rfl rfl rfl (s_no rfl rfl rfl rfl (s_val rfl (v_pick_t rfl rfl) (x_nil (n_then (x_ift rfl (x_seq (x_region (s_val rfl (v_build Tryz.underlying99 Tryz.zeroValue99 (sized_cons Tryz.sizeOf47 (sized_cons Tryz.sizeOf47 (sized_cons Tryz.sizeOf47 (sized_cons Tryz.sizeOf47 sized_nil)))) fil_nil) ?_)))))))))
    refine s_do0 (d_storeAll Tryz.sizeOf99 rfl rfl rfl rfl rfl) ?_
    rintro _ _ rfl
    refine s_val rfl (v_assign rfl) (x_nil (n_then (x_ret (r_then (x_done (.inl rfl) (.cons (r_all Tryz.isAgg99 Tryz.sizeOf99 rfl rfl) (.cons (r_tmp rfl) .nil)) ?_)))))
    refine ⟨_, ⟨?_, rfl⟩, inferInstance⟩
    have hl : lk fr pg r at_ n wr = (zD, 1) := by unfold lk; rw [if_pos (by omega)]
    rw [hl]; rfl
  · intro g1_3
    refine s_val rfl (v_move rfl) (s_yes rfl rfl ?_)
    refine s_val rfl (v_fieldAddr rfl Tryz.underlying71 rfl Tryz.sizeOf3 rfl (by first | exact Nat.zero_add _ | rfl)) ?_
    refine s_yes rfl rfl (s_val rfl (v_load Tryz.isAgg3 rfl (cell_own rfl)) ?_)
    refine s_yes rfl rfl (s_val rfl (v_geq rfl rfl) (s_val rfl (v_pick_f rfl rfl) (x_nil (n_then ?_))))
    refine x_if rfl ?_ ?_
    · intro c1
      refine x_seq (x_region (s_val rfl (v_build Tryz.underlying99 Tryz.zeroValue99 (sized_cons Tryz.sizeOf47 (sized_cons Tryz.sizeOf47 (sized_cons Tryz.sizeOf47 (sized_cons Tryz.sizeOf47 sized_nil)))) fil_nil) ?_))
      refine s_do0 (d_storeAll Tryz.sizeOf99 rfl rfl rfl rfl rfl) ?_
      rintro _ _ rfl
      refine s_val rfl (v_assign rfl) (x_nil (n_then (x_ret (r_then (x_done (.inl rfl) (.cons (r_all Tryz.isAgg99 Tryz.sizeOf99 rfl rfl) (.cons (r_tmp rfl) .nil)) ?_)))))
      refine ⟨_, ⟨?_, rfl⟩, inferInstance⟩
      have hl : lk fr pg r at_ n wr = (zD, 1) := by unfold lk; rw [if_pos (by omega)]
      rw [hl]; rfl
    · intro c1
      refine x_skip (n_then (x_seq (x_seq (x_region (s_val rfl (v_move rfl) ?_)))))
      refine s_val rfl (v_fieldAddr rfl Tryz.underlying71 rfl Tryz.sizeOf3 rfl (by first | exact Nat.zero_add _ | rfl)) ?_
      refine s_val rfl (v_load Tryz.isAgg3 rfl (cell_own rfl)) ?_
      refine s_val rfl (v_geq rfl rfl) (x_nil (n_then ?_))
      refine x_if rfl ?_ ?_
      · intro c3
        refine x_seq (x_region (s_val rfl (v_build Tryz.underlying99 Tryz.zeroValue99 (sized_cons Tryz.sizeOf47 (sized_cons Tryz.sizeOf47 (sized_cons Tryz.sizeOf47 (sized_cons Tryz.sizeOf47 sized_nil)))) fil_nil) ?_))
        refine s_do0 (d_storeAll Tryz.sizeOf99 rfl rfl rfl rfl rfl) ?_
        rintro _ _ rfl
        refine s_val rfl (v_assign rfl) (x_nil (n_then (x_ret (r_then (x_done (.inl rfl) (.cons (r_all Tryz.isAgg99 Tryz.sizeOf99 rfl rfl) (.cons (r_tmp rfl) .nil)) ?_)))))
        refine ⟨_, ⟨?_, rfl⟩, inferInstance⟩
        have hl : lk fr pg r at_ n wr = (zD, 2) := by unfold lk; rw [if_neg (by omega), if_pos (by omega)]
        rw [hl]; rfl
      · intro c3
        refine x_skip (n_then (x_seq ?_))
        obtain ⟨k, rfl⟩ : ∃ k : Nat, at_ = (k : Int) := ⟨at_.toNat, by omega⟩
        obtain ⟨dd, hdd⟩ : ∃ x, dsAt fr pg r k = x := ⟨_, rfl⟩
        have hok := dsAt_ok hF pg r k
        rw [hdd] at hok
        obtain ⟨rn, hrn⟩ : ∃ x : Nat, r.n = (x : Int) := ⟨r.n.toNat, by omega⟩
        refine x_region (s_val rfl (v_move rfl) ?_)
        refine s_val rfl (v_fieldAddr rfl Tryz.underlying71 rfl Tryz.sizeOf47 rfl (by first | exact Nat.zero_add _ | rfl)) ?_
        refine s_val rfl (v_load Tryz.isAgg47 rfl (cell_own rfl)) ?_
        refine s_val rfl (v_move rfl) ?_
        refine s_val rfl (v_conv Tryz.underlying3 Tryz.underlying47 rfl (w32u (by omega))) ?_
        refine s_val rfl (v_mul rfl rfl (by rw [w32u (by omega)]; omega : IntKind.wrap .u32 (16 * (k : Int)) = ((16 * k : Nat) : Int))) ?_
        refine s_val rfl (v_add rfl rfl (wrapN (r.desc + 16 * k))) ?_
        refine s_do rfl (d_call3 Tryz.call192 rfl (rvRead_spec W0 _ qv qs qm d fr pg h hF (dsPa r k) (dsPa_lt r k) 16)) ?_
        rintro _ B_ ⟨a, c, rfl, hB_⟩
        obtain rfl := hB_.symm
        refine s_val rfl (v_move rfl) (s_val rfl (v_extract rfl rfl) (s_val rfl (v_extract rfl rfl) (s_val rfl (v_assign rfl) (s_val rfl (v_assign rfl) (x_nil (n_then (x_seq (x_seq (x_region (s_val rfl (v_move rfl) (s_val rfl (v_not rfl) (x_nil (n_then ?_)))))))))))))
        refine x_if rfl ?_ ?_
        · intro c6
          have ho : ownB fr.length pg (dsPa r k) 16 = false := by simpa using c6
          refine x_seq (x_region (s_val rfl (v_build Tryz.underlying99 Tryz.zeroValue99 (sized_cons Tryz.sizeOf47 (sized_cons Tryz.sizeOf47 (sized_cons Tryz.sizeOf47 (sized_cons Tryz.sizeOf47 sized_nil)))) fil_nil) ?_))
          refine s_do0 (d_storeAll Tryz.sizeOf99 rfl rfl rfl rfl rfl) ?_
          rintro _ _ rfl
          refine s_val rfl (v_assign rfl) (x_nil (n_then (x_ret (r_then (x_done (.inl rfl) (.cons (r_all Tryz.isAgg99 Tryz.sizeOf99 rfl rfl) (.cons (r_tmp rfl) .nil)) ?_)))))
          refine ⟨_, ⟨?_, rfl⟩, inferInstance⟩
          have hl : lk fr pg r k n wr = (zD, 5) := by unfold lk; rw [if_neg (by omega), if_neg (by omega), Int.toNat_natCast, if_pos ho]
          rw [hl]; rfl
        · intro c6
          have ho : ownB fr.length pg (dsPa r k) 16 = true := Decidable.not_not.1 c6
          have ho' : ¬ ownB fr.length pg (dsPa r k) 16 = false := by rw [ho]; decide
          have hrd : rdO fr pg (dsPa r k) 16 = rdL fr pg (dsPa r k) 16 := by rw [rdO, if_pos ho]; rfl
          have hln : (rdL fr pg (dsPa r k) 16).length = 16 := rdL_len _ _ _ _
          have hda : dsOf (rdL fr pg (dsPa r k) 16) = dd := by rw [← hdd, dsAt, if_pos ho]
          rw [hrd]
          refine run_sla (E := 5) (sz := 1) (a := a) (c := c) (n := (rdL fr pg (dsPa r k) 16).length) (fun x => [bV x]) (rdL fr pg (dsPa r k) 16) (fun _ => rfl) (by decide) (byV_fm _).symm (fun hs1 => ?_)
          refine run_cap (E := 5) (sz := 1) (a := a) (c := c) (n := (rdL fr pg (dsPa r k) 16).length) (fun hcap => ?_)
          refine x_skip (n_then (x_seq (x_region (s_val rfl (v_move rfl) ?_))))
          refine s_do rfl (d_call Tryz.call279 rfl (rdGet_spec W0 _ a c _ hs1 (rdL_by hF _ _ _) hcap.1 (by rw [hln]; decide) (maxLen_lt hcap.2))) ?_
          rintro _ B_ ⟨rfl, hB_⟩
          obtain rfl := hB_.symm
          rw [if_pos hln, if_pos hln, hda]
          refine s_val rfl (v_move rfl) (s_val rfl (v_extract rfl rfl) (s_val rfl (v_extract rfl rfl) (s_do rfl (d_allocA Tryz.zeroValue99) ?_)))
          rintro _ _ ⟨bd, rfl, rfl⟩
          refine s_do0 (d_storeAll Tryz.sizeOf99 rfl rfl rfl rfl rfl) ?_
          rintro _ _ rfl
          refine s_val rfl (v_assign rfl) (x_nil (n_then (x_seq ?_)))
          rw [show rgV r = [.int .u32 r.desc, .int .u32 r.avail, .int .u32 r.used, .int .i64 rn] by rw [← hrn]]
          refine x_region (s_val rfl (v_loadAll Tryz.isAgg99 Tryz.sizeOf99 rfl rfl) ?_)
          refine s_val rfl (v_fieldAddr rfl Tryz.underlying71 rfl Tryz.sizeOf3 rfl (by first | exact Nat.zero_add _ | rfl)) ?_
          refine s_val rfl (v_load Tryz.isAgg3 rfl (cell_own rfl)) ?_
          refine s_do rfl (d_call Tryz.call280 rfl (rdCheck_spec W0 _ dd hok rn (by omega))) ?_
          rintro _ B_ ⟨rfl, hB_⟩
          obtain rfl := hB_.symm
          refine s_val rfl (v_assign rfl) (x_nil (n_then (x_seq (x_seq (x_region (s_val rfl (v_move rfl) (s_val rfl (v_neq rfl rfl) (x_nil (n_then ?_)))))))))
          refine x_if rfl ?_ ?_
          · intro c10
            refine x_seq (x_region (s_val rfl (v_build Tryz.underlying99 Tryz.zeroValue99 (sized_cons Tryz.sizeOf47 (sized_cons Tryz.sizeOf47 (sized_cons Tryz.sizeOf47 (sized_cons Tryz.sizeOf47 sized_nil)))) fil_nil) ?_))
            refine s_val rfl (v_move rfl) (s_do0 (d_storeAll Tryz.sizeOf99 rfl rfl rfl rfl rfl) ?_)
            rintro _ _ rfl
            refine s_val rfl (v_assign rfl) (x_nil (n_then (x_ret (r_then (x_done (.inl rfl) (.cons (r_all Tryz.isAgg99 Tryz.sizeOf99 rfl rfl) (.cons (r_tmp rfl) .nil)) ?_)))))
            refine ⟨_, ⟨?_, rfl⟩, inferInstance⟩
            have hl : lk fr pg r k n wr = (zD, chkC dd rn) := by unfold lk; rw [if_neg (by omega), if_neg (by omega), Int.toNat_natCast, if_neg ho', hdd, show r.n.toNat = rn by omega, if_pos c10]
            rw [hl]; rfl
          · intro c10
            refine x_skip (n_then (x_seq (x_seq (x_region (s_val rfl (v_move rfl) ?_)))))
            refine s_val rfl (v_fieldAddr rfl Tryz.underlying99 rfl Tryz.sizeOf47 rfl (by first | exact Nat.zero_add _ | rfl)) ?_
            refine s_val rfl (v_load Tryz.isAgg47 rfl (cell_own rfl)) ?_
            refine s_val rfl (v_fieldAddr rfl Tryz.underlying99 rfl Tryz.sizeOf47 rfl (by first | exact Nat.zero_add _ | rfl)) ?_
            refine s_val rfl (v_load Tryz.isAgg47 rfl (cell_own rfl)) ?_
            refine s_val rfl (v_conv Tryz.underlying47 Tryz.underlying3 rfl (w64 (by have := hok.len; omega))) ?_
            refine s_do rfl (d_call3 Tryz.call177 rfl (rvOwn_spec W0 _ qv qs qm d fr pg h dd.addr hok.addr dd.len)) ?_
            rintro _ B_ ⟨rfl, hB_⟩
            obtain rfl := hB_.symm
            refine s_val rfl (v_not rfl) (x_nil (n_then ?_))
            refine x_if rfl ?_ ?_
            · intro c12
              have ho2 : ownB fr.length pg dd.addr dd.len = false := by simpa using c12
              refine x_seq (x_region (s_val rfl (v_build Tryz.underlying99 Tryz.zeroValue99 (sized_cons Tryz.sizeOf47 (sized_cons Tryz.sizeOf47 (sized_cons Tryz.sizeOf47 (sized_cons Tryz.sizeOf47 sized_nil)))) fil_nil) ?_))
              refine s_do0 (d_storeAll Tryz.sizeOf99 rfl rfl rfl rfl rfl) ?_
              rintro _ _ rfl
              refine s_val rfl (v_assign rfl) (x_nil (n_then (x_ret (r_then (x_done (.inl rfl) (.cons (r_all Tryz.isAgg99 Tryz.sizeOf99 rfl rfl) (.cons (r_tmp rfl) .nil)) ?_)))))
              refine ⟨_, ⟨?_, rfl⟩, inferInstance⟩
              have hl : lk fr pg r k n wr = (zD, 5) := by unfold lk; rw [if_neg (by omega), if_neg (by omega), Int.toNat_natCast, if_neg ho', hdd, show r.n.toNat = rn by omega, if_neg c10, if_pos ho2]
              rw [hl]; rfl
            · intro c12
              have ho2 : ¬ ownB fr.length pg dd.addr dd.len = false := by simpa using c12
              have hf4 : dd.flags < 4 := by
                rcases Nat.lt_or_ge dd.flags 4 with q | q
                · exact q
                · exact absurd (by rw [chkC, if_pos q]; decide) c10
              have hwb : wrB dd = true ↔ 2 ≤ dd.flags := by rw [wrB, decide_eq_true_iff]; omega
              refine x_skip (n_then (x_seq (x_seq (x_region (s_val rfl (v_move rfl) (s_val rfl (v_move rfl) ?_))))))
              refine s_and rfl rfl rfl ?_ ?_
              · intro g14_2
                refine s_val rfl (v_fieldAddr rfl Tryz.underlying99 rfl Tryz.sizeOf47 rfl (by first | exact Nat.zero_add _ | rfl)) ?_
                refine s_yes rfl rfl (s_val rfl (v_load Tryz.isAgg47 rfl (cell_own rfl)) ?_)
                refine s_yes rfl rfl (s_val rfl (v_lss rfl rfl) (s_val rfl (v_pick_t rfl rfl) (x_nil (n_then ?_))))
                refine x_if rfl ?_ ?_
                · intro c14
                  refine x_seq (x_region (s_val rfl (v_build Tryz.underlying99 Tryz.zeroValue99 (sized_cons Tryz.sizeOf47 (sized_cons Tryz.sizeOf47 (sized_cons Tryz.sizeOf47 (sized_cons Tryz.sizeOf47 sized_nil)))) fil_nil) ?_))
                  refine s_do0 (d_storeAll Tryz.sizeOf99 rfl rfl rfl rfl rfl) ?_
                  rintro _ _ rfl
                  refine s_val rfl (v_assign rfl) (x_nil (n_then (x_ret (r_then (x_done (.inl rfl) (.cons (r_all Tryz.isAgg99 Tryz.sizeOf99 rfl rfl) (.cons (r_tmp rfl) .nil)) ?_)))))
                  refine ⟨_, ⟨?_, rfl⟩, inferInstance⟩
                  have hl : lk fr pg r k n wr = (zD, 6) := by unfold lk; rw [if_neg (by omega), if_neg (by omega), Int.toNat_natCast, if_neg ho', hdd, show r.n.toNat = rn by omega, if_neg c10, if_neg ho2, if_pos ⟨g14_2, by rw [← Bool.not_eq_true, hwb]; omega⟩]
                  rw [hl]; rfl
                · intro c14
                  refine x_skip (n_then (x_seq (x_region (s_val rfl (v_loadAll Tryz.isAgg99 Tryz.sizeOf99 rfl rfl) ?_))))
                  refine s_do0 (d_storeAll Tryz.sizeOf99 rfl rfl rfl rfl rfl) ?_
                  rintro _ _ rfl
                  refine s_val rfl (v_assign rfl) (x_nil (n_then (x_ret (x_done (.inl rfl) (.cons (r_all Tryz.isAgg99 Tryz.sizeOf99 rfl rfl) (.cons (r_tmp rfl) .nil)) ?_))))
                  refine ⟨_, ⟨?_, rfl⟩, inferInstance⟩
                  have hl : lk fr pg r k n wr = (dd, 0) := by unfold lk; rw [if_neg (by omega), if_neg (by omega), Int.toNat_natCast, if_neg ho', hdd, show r.n.toNat = rn by omega, if_neg c10, if_neg ho2, if_neg (by rintro ⟨q1, q2⟩; rw [← Bool.not_eq_true, hwb] at q2; first | exact g14_2 q1 | omega)]
                  rw [hl]; rfl
              · intro g14_2
                refine s_no rfl rfl rfl rfl (s_no rfl rfl rfl rfl (s_val rfl (v_pick_f rfl rfl) (x_nil (n_then (x_iff rfl (x_skip (n_then (x_seq (x_region (s_val rfl (v_loadAll Tryz.isAgg99 Tryz.sizeOf99 rfl rfl) ?_))))))))))
                refine s_do0 (d_storeAll Tryz.sizeOf99 rfl rfl rfl rfl rfl) ?_
                rintro _ _ rfl
                refine s_val rfl (v_assign rfl) (x_nil (n_then (x_ret (x_done (.inl rfl) (.cons (r_all Tryz.isAgg99 Tryz.sizeOf99 rfl rfl) (.cons (r_tmp rfl) .nil)) ?_))))
                refine ⟨_, ⟨?_, rfl⟩, inferInstance⟩
                have hl : lk fr pg r k n wr = (dd, 0) := by unfold lk; rw [if_neg (by omega), if_neg (by omega), Int.toNat_natCast, if_neg ho', hdd, show r.n.toNat = rn by omega, if_neg c10, if_neg ho2, if_neg (by rintro ⟨q1, q2⟩; rw [← Bool.not_eq_true, hwb] at q2; first | exact g14_2 q1 | omega)]
                rw [hl]; rfl
theorem rcWalk_spec (W0 : World) (R : List HP) (qv qs qm d : Nat) (fr : List Frm) (pg : List Pl) (h : Pgs pg) (hF : Frs fr) (r : Rg3) (hr : r.ok) (head : Int) :
    Spec Tryz.prog W0 190 [.pointer (some ⟨qv, 0, none⟩), .agg (rgV r).toArray, .int .i64 head] (rvw qv qs qm d fr pg R)
      (fun v B => ∃ a c, v = .tuple #[.slice a (wkAll fr pg r head).1.length c, .int .i64 (wkAll fr pg r head).2] ∧ B = osl 99 4 (.slice a (wkAll fr pg r head).1.length c) ((wkAll fr pg r head).1.flatMap dsV) :: rvw qv qs qm d fr pg R) := by
  refine spec_body Tryz.func190 Tryz.ntmps190 rfl rfl ?_
  refine x_seq (x_region (s_do rfl (d_boxA rfl) ?_))
  rintro _ _ ⟨b1, rfl, rfl⟩
  refine s_val rfl (v_assign rfl) (s_val rfl (v_assign rfl) (x_nil (n_then (x_seq (x_seq (x_region (s_val rfl (v_loadAll Tryz.isAgg71 Tryz.sizeOf71 rfl rfl) ?_)))))))
  refine s_do rfl (d_call Tryz.call182 rfl (rdRight_spec W0 _ r)) ?_
  rintro _ B_ ⟨rfl, hB_⟩
  obtain rfl := hB_.symm
  refine s_val rfl (v_not rfl) (x_nil (n_then ?_))
  refine x_if rfl ?_ ?_
  · intro c1
    refine x_seq (x_region (s_val rfl (v_assign rfl) (s_val rfl (v_assign rfl) (x_nil (n_then (x_ret (r_then (x_done (.inl rfl) (.cons (r_tmp rfl) (.cons (r_tmp rfl) .nil)) ?_))))))))
    have hw : wkAll fr pg r head = ([], 5) := by rw [wkAll, if_neg c1]
    rw [hw]
    exact ⟨_, ⟨none, 0, rfl, rfl⟩, ent_osl_nil⟩
  · intro c1
    have hri : rgtB r = true := Decidable.not_not.1 c1
    have hn8 : 0 ≤ r.n ∧ r.n ≤ 8 := by have := (rgtB_iff.1 hri).2; simp only [szd, decide_eq_true_iff] at this; omega
    have hw : wkAll fr pg r head = wkGo fr pg r head 9 0 := by rw [wkAll, if_pos hri]
    refine x_skip (n_then (x_seq (x_region (s_val rfl (v_assign rfl) (x_nil (n_then (x_seq (x_region (s_val rfl (v_move rfl) (s_val rfl (v_assign rfl) (x_nil (n_then (x_seq (x_region (s_val rfl (v_assign rfl) (x_nil (n_then (x_seq (x_seq (x_region (s_val rfl (v_assign rfl) (x_nil (n_then ?_)))))))))))))))))))))))
    refine x_block ?_
    refine x_loop (fun X : Nat × Option Addr × Nat => alive fr pg r head X.1) (fun X => [(0, .pointer (some ⟨qv, 0, none⟩)), (4, .pointer (some ⟨b1, 0, none⟩)), (8, .slice X.2.1 X.1 X.2.2), (9, .int .i64 (wkSt fr pg r head X.1).1), (10, .bool (wkSt fr pg r head X.1).2.1), (11, .int .i64 X.1)]) (fun X => osl 99 4 (.slice X.2.1 X.1 X.2.2) ((wkSt fr pg r head X.1).2.2.flatMap dsV) :: pt b1 (cob (rgV r) 71) :: rvw qv qs qm d fr pg R) (fun X => 9 - X.1) (0, none, 0) ?_ ?_ ?_ ?_
    · exact fun m hm => absurd hm (Nat.not_lt_zero m)
    · repeat (first | exact sub_nil | refine sub_cons rfl ?_)
    · exact ent_osl_nil
    · intro ⟨n, a, c⟩ hal
      dsimp only at hal ⊢
      have hn := hal.le hn8
      have hlen := wkSt_len fr pg r head n
      have hdok := lk_ok hF pg r (wkSt fr pg r head n).1 n (wkSt fr pg r head n).2.1
      refine x_seq (x_seq (x_region (s_val rfl (v_move rfl) ?_)))
      refine s_val rfl (v_fieldAddr rfl Tryz.underlying71 rfl Tryz.sizeOf3 rfl (by first | exact Nat.zero_add _ | rfl)) ?_
      refine s_val rfl (v_load Tryz.isAgg3 rfl (cell_own rfl)) ?_
      refine s_val rfl (v_leq rfl rfl) (x_nil (n_then ?_))
      refine x_if rfl ?_ ?_
      · intro c7
        refine x_skip (n_then (x_seq (x_block (x_seq (x_region (s_val rfl (v_move rfl) (s_val rfl (v_loadAll Tryz.isAgg71 Tryz.sizeOf71 rfl rfl) ?_)))))))
        refine s_val rfl (v_move rfl) (s_val rfl (v_move rfl) (s_val rfl (v_move rfl) (s_do rfl (d_call3 Tryz.call254 rfl (rcWrong_spec W0 _ qv qs qm d fr pg h hF r hr hn8.2 (wkSt fr pg r head n).2.1 (wkSt fr pg r head n).1 n)) ?_)))
        rintro _ B_ ⟨rfl, hB_⟩
        obtain rfl := hB_.symm
        refine s_val rfl (v_move rfl) (s_val rfl (v_extract rfl rfl) (s_val rfl (v_extract rfl rfl) (s_do rfl (d_allocA Tryz.zeroValue99) ?_)))
        rintro _ _ ⟨bd, rfl, rfl⟩
        refine s_do0 (d_storeAll Tryz.sizeOf99 rfl rfl rfl rfl rfl) ?_
        rintro _ _ rfl
        refine s_val rfl (v_assign rfl) (x_nil (n_then (x_seq (x_seq (x_region (s_val rfl (v_move rfl) (s_val rfl (v_neq rfl rfl) (x_nil (n_then ?_)))))))))
        refine x_if rfl ?_ ?_
        · intro c10
          refine x_seq (x_region (s_val rfl (v_move rfl) (s_val rfl (v_assign rfl) (s_val rfl (v_assign rfl) (x_nil (n_then (x_ret (r_then (r_block (r_then (r_then (r_block (r_then (x_done (.inl rfl) (.cons (r_tmp rfl) (.cons (r_tmp rfl) .nil)) ?_))))))))))))))
          rw [hw, wkGo_stop hal hn c10]
          exact ⟨_, ⟨none, 0, rfl, rfl⟩, ent_osl_nil⟩
        · intro c10
          have hc : (lkN fr pg r head n).2 = 0 := Decidable.not_not.1 c10
          have hf4 : (lkN fr pg r head n).1.flags < 4 := lk_flags hc
          have hlt : (n : Int) < r.n := lk_n hc
          have hwb : decide ((2 : Int) ≤ ((lkN fr pg r head n).1.flags : Int)) = wrB (lkN fr pg r head n).1 := by rw [Bool.eq_iff_iff, wrB, decide_eq_true_iff, decide_eq_true_iff]; omega
          refine x_skip (n_then (x_seq (x_region (s_val rfl (v_move rfl) (s_val rfl (v_loadAll Tryz.isAgg99 Tryz.sizeOf99 rfl rfl) ?_)))))
          refine s_do rfl (d_sliceAgg Tryz.underlying43 Tryz.sizeOf99 Tryz.zeroValue99 rfl (elsK_cons rfl rfl elsK_nil) rfl (by decide) (by decide) (by decide)) ?_
          rintro _ _ ⟨b3, rfl, rfl⟩
          refine s_do rfl (d_append (sz := 4) (by_ := 16) (info := Tryz.t99) Tryz.underlying43 (by kernel_rfl) rfl rfl rfl rfl (by decide) rfl rfl cells_all rfl rfl (by simp only [maxLen]; omega) (by omega)) ?_
          rintro _ _ ⟨a1, c1, rfl, rfl⟩
          refine s_val rfl (v_assign rfl) (x_nil (n_then (x_seq (x_region ?_))))
          refine s_val rfl (v_fieldAddr rfl Tryz.underlying99 rfl Tryz.sizeOf47 rfl (by first | exact Nat.zero_add _ | rfl)) ?_
          refine s_val rfl (v_load Tryz.isAgg47 rfl (cell_own rfl)) ?_
          refine s_val rfl (v_geq rfl rfl) (s_val rfl (v_assign rfl) (x_nil (n_then (x_seq (x_seq (x_region ?_))))))
          refine s_val rfl (v_fieldAddr rfl Tryz.underlying99 rfl Tryz.sizeOf47 rfl (by first | exact Nat.zero_add _ | rfl)) ?_
          refine s_val rfl (v_load Tryz.isAgg47 rfl (cell_own rfl)) ?_
          refine s_val rfl (v_rem rfl rfl (by decide) (tmodN (lkN fr pg r head n).1.flags 2)) ?_
          refine s_val rfl (v_eql rfl rfl) (x_nil (n_then ?_))
          refine x_if rfl ?_ ?_
          · intro c14
            refine x_seq (x_region (s_val rfl (v_move rfl) (s_val rfl (v_assign rfl) (s_val rfl (v_assign rfl) (x_nil (n_then (x_ret (r_then (r_block (r_then (r_then (r_block (r_then (x_done (.inl rfl) (.cons (r_tmp rfl) (.cons (r_tmp rfl) .nil)) ?_))))))))))))))
            have hg : goB (lkN fr pg r head n).1 = false := by rw [goB, decide_eq_false_iff_not]; omega
            have hst : (wkSt fr pg r head (n + 1)).2.2 = (wkSt fr pg r head n).2.2 ++ [(lkN fr pg r head n).1] := rfl
            rw [hw, wkGo_end hal hn hc hg, hst, List.length_append, List.flatMap_append, hlen]
            refine ⟨_, ⟨a1, c1, rfl, rfl⟩, ?_⟩
            show Ent (osl 99 4 (.slice a1 (n + 1) c1) ((wkSt fr pg r head n).2.2.flatMap dsV ++ [dsV (lkN fr pg r head n).1].flatten) :: _) (osl 99 4 (.slice a1 (n + 1) c1) ((wkSt fr pg r head n).2.2.flatMap dsV ++ [dsV (lkN fr pg r head n).1].flatten) :: _)
            exact inferInstance
          · intro c14
            have hg : goB (lkN fr pg r head n).1 = true := by rw [goB, decide_eq_true_iff]; omega
            refine x_skip (n_then (x_region ?_))
            refine s_val rfl (v_fieldAddr rfl Tryz.underlying99 rfl Tryz.sizeOf47 rfl (by first | exact Nat.zero_add _ | rfl)) ?_
            refine s_val rfl (v_load Tryz.isAgg47 rfl (cell_own rfl)) ?_
            refine s_val rfl (v_conv Tryz.underlying47 Tryz.underlying3 rfl (w64 (by have := hdok.next; omega))) ?_
            refine s_val rfl (v_assign rfl) (x_nil (n_block (n_then (x_region (s_val rfl (v_move rfl) ?_)))))
            refine s_val rfl (v_add rfl rfl (by first | exact w64 (by omega) | rfl)) ?_
            refine s_val rfl (v_assign rfl) (x_nil (n_then ?_))
            refine inv_intro (n + 1, a1, c1) ?_ ?_ ?_ ?_
            · exact hal.succ hc hg
            · omega
            · have ew : Value.bool (wkSt fr pg r head (n + 1)).2.1 = .bool (decide ((2 : Int) ≤ ((lkN fr pg r head n).1.flags : Int))) := congrArg Value.bool hwb.symm
              dsimp only
              rw [ew]
              repeat (first | exact sub_nil | refine sub_cons rfl ?_)
            · have hst : (wkSt fr pg r head (n + 1)).2.2 = (wkSt fr pg r head n).2.2 ++ [(lkN fr pg r head n).1] := rfl
              dsimp only
              rw [hst, List.flatMap_append]
              show Ent (osl 99 4 (.slice a1 (n + 1) c1) ((wkSt fr pg r head n).2.2.flatMap dsV ++ [dsV (lkN fr pg r head n).1].flatten) :: _) (osl 99 4 (.slice a1 (n + 1) c1) ((wkSt fr pg r head n).2.2.flatMap dsV ++ [dsV (lkN fr pg r head n).1].flatten) :: _)
              exact inferInstance
      · intro c7
        refine x_exit (e_then (e_then (e_block (n_then (x_seq (x_region (s_val rfl (v_assign rfl) (s_val rfl (v_assign rfl) (x_nil (n_then (x_ret (x_done (.inl rfl) (.cons (r_tmp rfl) (.cons (r_tmp rfl) .nil)) ?_))))))))))))
        exfalso
        rcases Nat.eq_zero_or_pos n with q | q
        · omega
        · have := lk_n (hal (n - 1) (by omega)).1; omega
end Go.Proofs.YtlnmofhehcilhaaGreat
namespace Go.Proofs.YtlnmofhehcilhaaGreat
open Go.RowKit
set_option linter.unusedSimpArgs false
set_option linter.unusedVariables false
set_option maxRecDepth 20000
end Go.Proofs.YtlnmofhehcilhaaGreat
namespace Go.Proofs.YtlnmofhehcilhaaGreat
open Go.RowKit
set_option linter.unusedSimpArgs false
set_option linter.unusedVariables false
set_option maxRecDepth 20000
end Go.Proofs.YtlnmofhehcilhaaGreat
namespace Go.Proofs.YtlnmofhehcilhaaGreat
open Go.RowKit
set_option linter.unusedSimpArgs false
set_option linter.unusedVariables false
set_option maxRecDepth 20000
section
variable {P : Program} {S : World → Prop} {W0 : World} {N : FSz} {e : Env} {A R : List HP} {t t' : TypeId} {x : Operand} {v : Value} {b : Nat} {vs : List Value}
theorem cell_obj {arr : Array Value} {ty : TypeId} {mk : Nat × Nat} {off : Nat} [h : Tk pt b A (.cells arr ty mk) R] (hv : arr[off]? = some v) : Cell (OwnP W0 A) b off v := fun w (hO : Own W0 w A) => by
  have := (hO.tk (r := pt) (b := b)).has.2
  simp [World.cell?, this, hv]
theorem cells_obj {arr : Array Value} {ty : TypeId} {mk : Nat × Nat} [h : Tk pt b A (.cells arr ty mk) R] (hv : ∀ (i : Nat) (v : Value), vs[i]? = some v → arr[i]? = some v) : Cells (OwnP W0 A) b 0 vs := fun i v hi => by
  rw [Nat.zero_add]; exact cell_obj (hv i v hi)
def bL (s : ByteArray) : List Nat := s.data.toList.map UInt8.toNat
theorem bL_len (s : ByteArray) : (bL s).length = s.size := by rw [bL, List.length_map, Array.length_toList]; rfl
theorem bL_by (s : ByteArray) : By (bL s) := fun x hx => by
  obtain ⟨u, _, rfl⟩ := List.mem_map.1 hx
  exact u.toNat_lt
theorem strB_bL (s : ByteArray) : strB (bL s) = s := by
  have h := strB_list (bL s)
  have : (bL s).map UInt8.ofNat = s.data.toList := by
    rw [bL, List.map_map]
    conv => rhs; rw [← List.map_id s.data.toList]
    exact List.map_congr_left fun u _ => by simp
  rw [this] at h
  obtain ⟨d⟩ := s
  have e := Array.ext' h
  cases hq : strB (bL ⟨d⟩) with
  | mk d' => rw [hq] at e; simp only at e; rw [e]
theorem strB_size (l : List Nat) : (strB l).size = l.length := by
  rw [← bL_len, bL, strB_list, List.length_map, List.length_map]
theorem d_strb {E : TypeId} {s : ByteArray} (hs : P.underlying t = some .string) (hd : P.underlying t' = some (.slice E)) (he : P.underlying E = some (.int .u8)) (hx : ev e x = some (.string s)) :
    Does P W0 N e A (.convert t t' x) (fun v B => ∃ b c, ∃ arr : Array Value, ∃ mk, v = .slice (some ⟨b, 0, none⟩) s.size c ∧ s.size ≤ c ∧ (∀ (i : Nat) (v : Value), (byV (bL s))[i]? = some v → arr[i]? = some v) ∧ B = pt b (.cells arr E mk) :: A) := does_run fun a w _ _ _ _ _ hF hO => by
  have hr := run_bytes_of_string (P := P) w t t' E s hs hd he
  obtain ⟨ob, hob⟩ : ∃ o, Obj.cells (bytesRow s (grownCap w s.size 0 E)) E ((bytesRow s (grownCap w s.size 0 E)).size, (bytesRow s (grownCap w s.size 0 E)).size + 1) = o := ⟨_, rfl⟩
  refine ⟨_, w.drew.alloc ob, pt w.heap.size ob :: A, .inl (by rw [← hob]; simp only [execOp, hF.eval hx, Sem.run_bind, hr, Result.andThen_ok, Sem.run_pure]), ⟨w.heap.size, _, _, _, rfl, grownCap_ge w s.size 0 E, fun i v hv => ?_, by rw [← hob]⟩, ?_⟩
  · have hi : i < s.data.size := by
      rcases Nat.lt_or_ge i s.data.size with q | q
      · exact q
      · rw [List.getElem?_eq_none (by rw [byV_len, bL_len]; exact q)] at hv; cases hv
    rw [byV, bL, List.map_map, List.getElem?_map, Array.getElem?_toList, Array.getElem?_eq_getElem hi] at hv
    simp only [Option.map_some, Option.some.injEq] at hv
    rw [bytesRow, Array.getElem?_append_left (by simpa using hi), Array.getElem?_map, Array.getElem?_eq_getElem hi, ← hv]
    rfl
  · exact (Own.drew hO (w.drawn + 1)).new _
end
theorem octGet_any (W0 : World) (R : List HP) (a : Option Addr) (c : Nat) (l : List Nat) (at_ w : Int) (hs : SlA (OwnP W0 R) a 1 (fun x => [bV x]) l) (hb : By l) (hn : l.length ≤ c) (h63 : c < 9223372036854775808) :
    Spec Tryz.prog W0 188 [.slice a l.length c, .int .i64 at_, .int .i64 w] R (fun v B => v = .tuple #[.int .u32 (getN l at_ w : Nat), .int .i64 (getE l at_ w)] ∧ B = R) := by
  by_cases h0 : l = []
  · subst h0
    have hi : inB 0 at_ w = false := by
      rw [← Bool.not_eq_true, inB_iff]; omega
    have hi' : inB ([] : List Nat).length at_ w = false := hi
    rw [getN, getE, hi']
    refine spec_body Tryz.func188 Tryz.ntmps188 rfl rfl ?_
    refine x_seq (x_region (s_val rfl (v_assign rfl) (s_val rfl (v_assign rfl) (x_nil (n_then (x_seq (x_region (s_val rfl (v_move rfl) (s_val rfl (v_move rfl) (s_val rfl (v_move rfl) ?_))))))))))
    refine s_do rfl (d_call Tryz.call250 rfl (windowN_spec W0 _ a 0 c at_ w hi (by omega))) ?_
    rintro _ B_ ⟨rfl, hB_⟩
    obtain rfl := hB_.symm
    refine s_val rfl (v_move rfl) (s_val rfl (v_extract rfl rfl) (s_val rfl (v_extract rfl rfl) (s_val rfl (v_assign rfl) (s_val rfl (v_assign rfl) (x_nil (n_then (x_seq (x_seq (x_region (s_val rfl (v_move rfl) (s_val rfl (v_not rfl) (x_nil (n_then ?_)))))))))))))
    refine x_if rfl ?_ ?_
    · intro c2
      refine x_seq (x_region (s_val rfl (v_assign rfl) (s_val rfl (v_assign rfl) (x_nil (n_then (x_ret (r_then (x_done (.inl rfl) (.cons (r_tmp rfl) (.cons (r_tmp rfl) .nil)) ?_))))))))
      exact ⟨_, ⟨rfl, rfl⟩, inferInstance⟩
    · intro c2
      exact absurd c2 (by simp)
  · obtain ⟨g, o, rfl, hc⟩ := hs.all h0 (fun _ => rfl)
    exact octGet_spec W0 R g o c l at_ w (by rw [← byV_fm]; exact hc) hb hn h63
theorem sla_byV {S : World → Prop} {b off : Nat} {bs : List Nat} (h : Cells S b off (byV bs)) : SlA S (some ⟨b, off, none⟩) 1 (fun x => [bV x]) bs := fun i x hi => ⟨b, off, rfl, fun j v hj => by
  have hj0 : j = 0 := by
    rcases Nat.eq_zero_or_pos j with q | q
    · exact q
    · rw [List.getElem?_eq_none (by simp; omega)] at hj; cases hj
  subst hj0
  have hx : (byV bs)[i]? = some v := by
    rw [byV, List.getElem?_map, hi]
    simpa [byV] using hj
  rw [Nat.mul_one, Nat.add_zero]
  exact h i v hx⟩
theorem sla_tail {S : World → Prop} {a : Option Addr} {bs : List Nat} {c i : Nat} (h : SlA S a 1 (fun x => [bV x]) bs) (hc : bs.length ≤ c) (hi : i ≤ bs.length) : SlA S (sliA a c i 1) 1 (fun x => [bV x]) (bs.drop i) := by
  have := h.sub (c := c) (i := i) (k := bs.length - i) (by omega) hc
  rwa [List.take_of_length_le (by rw [List.length_drop]; omega)] at this
theorem v_fieldA {P : Program} {S : World → Prop} {N : FSz} {e : Env} {x : Operand} {l l' : List Value} {T : TypeId} {fs : Array Field} {nm : String} {i ft fo n : Nat} {em : Bool} {tg pk : String} {bo : Nat} (hx : ev e x = some (.agg l.toArray)) (hu : P.underlying T = some (.struct fs)) (hf : fs.toList[i]? = some ⟨nm, ft, fo, em, tg, pk, bo⟩)
    (ha : ∀ w, (isAgg ft).run P w = .ok true w) (hs : ∀ w, (sizeOf ft).run P w = .ok n w) (hl : (l.drop fo).take n = l') : Val P S N e (.field T x i) (.agg l'.toArray) := fun a w _ _ _ _ _ hF _ => by
  have hf' : fs[i]? = some ⟨nm, ft, fo, em, tg, pk, bo⟩ := by simpa using hf
  simp only [execOp, Instr.field, hF.eval hx, Sem.run_bind, run_und hu, hf', Result.andThen_ok, asAgg, Sem.run_pure]
  rw [part_agg ha hs hl]; rfl
def pkG (fr : List Frm) (pg : List Pl) (l : List Dsc) : List Nat := gthK fr pg l 36 l.length
def pkB (fr : List Frm) (pg : List Pl) (l : List Dsc) : Bool := decide (4 ≤ lenW l false ∧ lenW l false ≤ 36 ∧ 4 ≤ (pkG fr pg l).length)
def pkT (fr : List Frm) (pg : List Pl) (l : List Dsc) : Nat := if pkB fr pg l then leN ((pkG fr pg l).take 4) else 0
def pkS (fr : List Frm) (pg : List Pl) (l : List Dsc) : ByteArray := if pkB fr pg l then strB ((pkG fr pg l).drop 4) else ByteArray.empty
theorem pkS_size (fr : List Frm) (pg : List Pl) (l : List Dsc) : (pkS fr pg l).size ≤ 32 := by
  unfold pkS; split
  · rw [strB_size, List.length_drop]
    have := (gthK_len fr pg l 36 l.length).2
    unfold pkG; omega
  · exact Nat.zero_le _
theorem pkT_lt {fr : List Frm} (hF : Frs fr) (pg : List Pl) (l : List Dsc) : pkT fr pg l < 4294967296 := by
  unfold pkT; split
  · have := leN_lt ((gthK_by hF pg l 36 l.length).take 4)
    rename_i h
    have hk : 4 ≤ (pkG fr pg l).length := (of_decide_eq_true h).2.2
    unfold pkG at hk ⊢
    rw [List.length_take, Nat.min_eq_left hk] at this
    exact this
  · omega
theorem packet_spec (W0 : World) (R : List HP) (pv ps pm d c : Nat) (a : Option Addr) (fr : List Frm) (pg : List Pl) (h : Pgs pg) (hF : Frs fr) (l : List Dsc) (hl : ∀ x ∈ l, x.ok) (hn : l.length ≤ 1000) :
    Spec Tryz.prog W0 106 [.pointer (some ⟨pv, 0, none⟩), .slice a l.length c] (osl 99 4 (.slice a l.length c) (l.flatMap dsV) :: vwW pv ps pm d fr pg R)
      (fun v B => v = .tuple #[.int .i64 (pkT fr pg l : Nat), sV (pkS fr pg l), .bool (pkB fr pg l)] ∧ B = osl 99 4 (.slice a l.length c) (l.flatMap dsV) :: vwW pv ps pm d fr pg R) := by
  obtain ⟨G, hG⟩ : ∃ G, pkG fr pg l = G := ⟨_, rfl⟩
  have hGb : By G := by rw [← hG]; exact gthK_by hF pg l 36 l.length
  have hGl : G.length ≤ 36 := by
    have := (gthK_len fr pg l 36 l.length).2
    rw [← hG, pkG]; omega
  have hX : pkB fr pg l = decide (4 ≤ lenW l false ∧ lenW l false ≤ 36 ∧ 4 ≤ G.length) := by rw [pkB, hG]
  have hno : ¬ (4 ≤ lenW l false ∧ lenW l false ≤ 36 ∧ 4 ≤ G.length) → pkT fr pg l = 0 ∧ pkS fr pg l = ByteArray.empty ∧ pkB fr pg l = false := fun q => by
    have hb : pkB fr pg l = false := by rw [hX, decide_eq_false q]
    rw [pkT, pkS, hb]; exact ⟨rfl, rfl, rfl⟩
  refine spec_body Tryz.func106 Tryz.ntmps106 rfl rfl ?_
  refine x_seq (x_region (s_val rfl (v_assign rfl) (s_val rfl (v_assign rfl) (s_val rfl (v_assign rfl) (x_nil (n_then (x_seq (x_seq (x_region (s_val rfl (v_move rfl) (s_do rfl (d_call1 Tryz.call186 rfl (chLen_spec W0 _ a c l false hl hn)) ?_)))))))))))
  rintro _ B_ ⟨rfl, hB_⟩
  obtain rfl := hB_.symm
  refine s_val rfl (v_assign rfl) (x_nil (n_then (x_seq (x_region (s_val rfl (v_move rfl) (s_val rfl (v_lss rfl rfl) (s_val rfl (v_move rfl) ?_)))))))
  refine s_or rfl rfl rfl ?_ ?_
  · intro g2_3
    refine s_no rfl rfl rfl rfl (s_val rfl (v_pick_t rfl rfl) (x_nil (n_then (x_ift rfl (x_seq (x_region (s_val rfl (v_assign rfl) (s_val rfl (v_assign rfl) (s_val rfl (v_assign rfl) (x_nil (n_then (x_ret (r_then (x_done (.inl rfl) (.cons (r_tmp rfl) (.cons (r_tmp rfl) (.cons (r_tmp rfl) .nil))) ?_))))))))))))))
    obtain ⟨e1, e2, e3⟩ := hno (by omega)
    rw [e1, e2, e3]
    exact ⟨_, ⟨rfl, rfl⟩, inferInstance⟩
  · intro g2_3
    refine s_val rfl (v_move rfl) (s_yes rfl rfl (s_val rfl (v_gtr rfl rfl) (s_val rfl (v_pick_f rfl rfl) (x_nil (n_then ?_)))))
    refine x_if rfl ?_ ?_
    · intro c2
      refine x_seq (x_region (s_val rfl (v_assign rfl) (s_val rfl (v_assign rfl) (s_val rfl (v_assign rfl) (x_nil (n_then (x_ret (r_then (x_done (.inl rfl) (.cons (r_tmp rfl) (.cons (r_tmp rfl) (.cons (r_tmp rfl) .nil))) ?_)))))))))
      obtain ⟨e1, e2, e3⟩ := hno (by omega)
      rw [e1, e2, e3]
      exact ⟨_, ⟨rfl, rfl⟩, inferInstance⟩
    · intro c2
      refine x_skip (n_then (x_seq ?_))
      refine run_form (E := 99) (sz := 4) (a := a) (c := c) (n := l.length) (ys := l.flatMap dsV) (fun hf1 => ?_)
      refine x_region (s_val rfl (v_move rfl) (s_val rfl (v_move rfl) ?_))
      refine s_do rfl (d_call3 Tryz.call187 rfl (chGather_spec W0 _ pv ps pm d c a fr pg h hF l (sla_cells hf1 (cells_osl (E := 99) (sz := 4) (a := a) (n := l.length) (c := c)) (fun _ => rfl) rfl (by decide)) hl hn 36 (by decide))) ?_
      rintro _ B_ ⟨a2, cc, rfl, hB_⟩
      obtain rfl := hB_.symm
      rw [show gthK fr pg l 36 l.length = G from hG]
      refine s_val rfl (v_assign rfl) (x_nil (n_then (x_seq ?_)))
      refine run_sla (E := 5) (sz := 1) (a := a2) (n := G.length) (c := cc) (fun x => [bV x]) G (fun _ => rfl) (by decide) (byV_fm G).symm (fun hs => ?_)
      refine run_cap (E := 5) (sz := 1) (a := a2) (c := cc) (n := G.length) (fun hcap => ?_)
      refine x_region (s_val rfl (v_move rfl) ?_)
      refine s_do rfl (d_call Tryz.call188 rfl (octGet_any W0 _ a2 cc G 0 4 hs hGb hcap.1 (by have := hcap.2; simp only [maxLen] at this; omega))) ?_
      rintro _ B_ ⟨rfl, hB_⟩
      obtain rfl := hB_.symm
      refine s_val rfl (v_move rfl) (s_val rfl (v_extract rfl rfl) (s_val rfl (v_extract rfl rfl) (s_val rfl (v_assign rfl) (s_val rfl (v_assign rfl) (x_nil (n_then (x_seq (x_seq (x_region (s_val rfl (v_move rfl) (s_val rfl (v_neq rfl rfl) (x_nil (n_then ?_)))))))))))))
      refine x_if rfl ?_ ?_
      · intro c6
        refine x_seq (x_region (s_val rfl (v_assign rfl) (s_val rfl (v_assign rfl) (s_val rfl (v_assign rfl) (x_nil (n_then (x_ret (r_then (x_done (.inl rfl) (.cons (r_tmp rfl) (.cons (r_tmp rfl) (.cons (r_tmp rfl) .nil))) ?_)))))))))
        obtain ⟨e1, e2, e3⟩ := hno (fun q => by
          have h4 : inB G.length 0 4 = true := inB_iff.2 ⟨by omega, by omega, by omega, by omega⟩
          rw [getE, h4] at c6; simp at c6)
        rw [e1, e2, e3]
        exact ⟨_, ⟨rfl, rfl⟩, inferInstance⟩
      · intro c6
        have h4 : 4 ≤ G.length := by
          by_cases q : inB G.length 0 4 = true
          · have := inB_iff.1 q; omega
          · exfalso; rw [getE, if_neg q] at c6; simp at c6
        have hlw : 4 ≤ lenW l false ∧ lenW l false ≤ 36 := ⟨by omega, by omega⟩
        have hB1 : pkB fr pg l = true := by rw [hX, decide_eq_true_iff]; exact ⟨hlw.1, hlw.2, h4⟩
        have hB2 : pkT fr pg l = getN G 0 4 := by
          rw [pkT, hB1, if_pos rfl, hG, getN, if_pos (inB_iff.2 ⟨by omega, by omega, by omega, by omega⟩)]; rfl
        have hB3 : pkS fr pg l = strB (G.drop 4) := by rw [pkS, hB1, if_pos rfl, hG]
        rw [hB1, hB2, hB3]
        have hgn := getN_lt (at_ := 0) (w := 4) hGb
        obtain ⟨g, o, rfl, hcg⟩ := hs.all (by intro q; rw [q] at h4; simp at h4) (fun _ => rfl)
        rw [byV_fm] at hcg
        refine x_skip (n_then (x_seq ?_))
        refine x_draw [(g, o, byV G)] 8 mixed rfl (sc_cons hcg sc_end) (fun hS => ?_)
        refine d_take 0 rfl rfl (by kernel_rfl) (by kernel_rfl) (by kernel_rfl) rfl hS (v_move rfl) ?_
        refine d_take 1 rfl rfl (by kernel_rfl) (by kernel_rfl) (by kernel_rfl) rfl hS (v_conv Tryz.underlying47 Tryz.underlying3 rfl (w64 (by omega))) ?_
        refine d_take 2 rfl rfl (by kernel_rfl) (by kernel_rfl) (by kernel_rfl) rfl hS (v_move rfl) ?_
        refine d_take 3 rfl rfl (by kernel_rfl) (by kernel_rfl) (by kernel_rfl) rfl hS (v_sliceLg Tryz.underlying44 Tryz.sizeOf5 rfl (i := 4) rfl rfl (by omega) rfl) ?_
        refine d_take 4 rfl rfl (by kernel_rfl) (by kernel_rfl) (by kernel_rfl) rfl hS (v_bstrSN Tryz.underlying44 Tryz.underlying5 Tryz.underlying9 rfl (by rw [List.length_drop]) (sla_tail (sla_byV (cells_sc (k := 0) rfl)) hcap.1 (by omega))) ?_
        refine d_take 5 rfl rfl (by kernel_rfl) (by kernel_rfl) (by kernel_rfl) rfl hS (v_assign rfl) ?_
        refine d_take 6 rfl rfl (by kernel_rfl) (by kernel_rfl) (by kernel_rfl) rfl hS (v_assign rfl) ?_
        refine d_take 7 rfl rfl (by kernel_rfl) (by kernel_rfl) (by kernel_rfl) rfl hS (v_assign rfl) ?_
        refine d_done (by kernel_rfl) ?_; clear hS
        refine n_then (x_ret (x_done (.inl rfl) (.cons (r_tmp rfl) (.cons (r_tmp rfl) (.cons (r_tmp rfl) .nil))) ?_))
        exact ⟨_, ⟨rfl, rfl⟩, inferInstance⟩
end Go.Proofs.YtlnmofhehcilhaaGreat
namespace Go.Proofs.YtlnmofhehcilhaaGreat
open Go.RowKit
set_option linter.unusedSimpArgs false
set_option linter.unusedVariables false
set_option maxRecDepth 20000
theorem v_fieldV {P : Program} {S : World → Prop} {N : FSz} {e : Env} {x : Operand} {v : Value} {l : List Value} {T : TypeId} {fs : Array Field} {nm : String} {i ft fo : Nat} {em : Bool} {tg pk : String} {bo : Nat} (hx : ev e x = some (.agg l.toArray)) (hu : P.underlying T = some (.struct fs)) (hf : fs.toList[i]? = some ⟨nm, ft, fo, em, tg, pk, bo⟩)
    (ha : ∀ w, (isAgg ft).run P w = .ok false w) (hl : l[fo]? = some v) : Val P S N e (.field T x i) v := fun a w _ _ _ _ _ hF _ => by
  have hf' : fs[i]? = some ⟨nm, ft, fo, em, tg, pk, bo⟩ := by simpa using hf
  simp only [execOp, Instr.field, hF.eval hx, Sem.run_bind, run_und hu, hf', Result.andThen_ok, asAgg, Sem.run_pure]
  rw [part_scal ha hl]; rfl
end Go.Proofs.YtlnmofhehcilhaaGreat
namespace Go.Proofs.YtlnmofhehcilhaaGreat
open Go.RowKit
set_option linter.unusedSimpArgs false
set_option linter.unusedVariables false
set_option maxRecDepth 20000
def PrS (ps : List Prt) : Prop := PrOk ps ∧ ∀ x ∈ ps, ∀ s ∈ x.l, s.size ≤ 32
theorem PrS.at_ {ps : List Prt} (h : PrS ps) {i : Nat} (hi : i < ps.length) : ∀ s ∈ (ps.getD i default).l, s.size ≤ 32 := by
  rw [show ps.getD i default = ps[i] by simp [List.getD, hi]]; exact h.2 _ (List.getElem_mem hi)
theorem PrS.set {ps : List Prt} (h : PrS ps) {i : Nat} {x : Prt} (hx : x.l.length ≤ mostP x) (hs : ∀ s ∈ x.l, s.size ≤ 32) : PrS (ps.set i x) := ⟨h.1.set hx, fun y hy => by
  rcases List.mem_or_eq_of_mem_set hy with q | q
  · exact h.2 y q
  · rw [q]; exact hs⟩
theorem putPr_sz {x : Prt} {s : ByteArray} (h : ∀ t ∈ x.l, t.size ≤ 32) (hs : s.size ≤ 32) : ∀ t ∈ (putPr x s).l, t.size ≤ 32 := by
  unfold putPr; split
  · exact h
  · intro t ht
    rcases List.mem_append.1 ht with q | q
    · exact h t q
    · simp at q; rw [q]; exact hs
theorem inR_nat {ps : List Prt} {i : Int} (h : inR ps i = true) : ∃ k : Nat, i = (k : Int) ∧ k < ps.length := by
  have := inR_iff.1 h
  exact ⟨i.toNat, by omega, by omega⟩
theorem sndP_ok {ps : List Prt} (h : PrS ps) (f t : Int) (s : ByteArray) : PrS (sndP ps f t s) := by
  unfold sndP; split
  · rename_i hb
    simp only [sndB, Bool.and_eq_true, decide_eq_true_iff] at hb
    obtain ⟨k, rfl, hk⟩ := inR_nat hb.1.1.2
    exact h.set (putPr_ok (h.1.at_ hk)) (putPr_sz (h.at_ hk) hb.1.2)
  · exact h
theorem arP_ok {ps : List Prt} (h : PrS ps) (i : Int) (s : ByteArray) : PrS (arP ps i s) := by
  unfold arP; split
  · rename_i hb
    have hin : isIn ps i = true := by
      rw [← Bool.not_eq_false]; intro q
      rw [arE, if_neg (by rw [q]; decide)] at hb; simp at hb
    have hs : s.size ≤ 32 := by
      rw [arE, if_pos hin] at hb
      by_cases q : 32 < s.size
      · rw [if_pos q] at hb; simp at hb
      · omega
    obtain ⟨k, rfl, hk, _⟩ := isIn_nat hin
    exact h.set (putPr_ok (h.1.at_ hk)) (putPr_sz (h.at_ hk) hs)
  · exact h
theorem tkP_ok {ps : List Prt} (h : PrS ps) (i : Int) : PrS (tkP ps i) := by
  unfold tkP; split
  · rename_i hb
    simp only [tkB, Bool.and_eq_true] at hb
    obtain ⟨k, rfl, hk, _⟩ := isIn_nat hb.1
    refine h.set ?_ fun s hs => h.at_ hk s (List.mem_of_mem_tail hs)
    have := h.1.at_ hk
    show (pAt ps k).l.tail.length ≤ mostP (pAt ps k)
    rw [List.length_tail]
    show (ps.getD k default).l.length - 1 ≤ mostP (ps.getD k default)
    omega
  · exact h
theorem tkV_size {ps : List Prt} (h : PrS ps) (i : Int) : (tkV ps i).size ≤ 32 := by
  unfold tkV; split
  · rename_i hb
    simp only [tkB, Bool.and_eq_true, decide_eq_true_iff] at hb
    obtain ⟨k, rfl, hk, _⟩ := isIn_nat hb.1
    have h2 := h.at_ hk
    show ((ps.getD k default).l.headD ByteArray.empty).size ≤ 32
    cases q : (ps.getD k default).l with
    | nil => simp
    | cons s l => exact h2 s (by rw [q]; simp)
  · simp
theorem newP_okS {l : List Pt2} (h : l.length ≤ 8) : PrS (newP l) := ⟨newP_ok h, fun x hx s hs => by
  obtain ⟨y, _, rfl⟩ := List.mem_map.1 hx
  simp at hs⟩
structure SvR where
  m : Nat
  t : Nat
  fr : List Frm
  d : Nat
  ps : List Prt
def doR (tx : Bool) (pg : List Pl) (port : Int) (ps : List Prt) (fr : List Frm) (d : Nat) (l : List Dsc) : SvR :=
  if tx then (if pkB fr pg l then ⟨4 + (pkS fr pg l).size, 0, fr, d, sndP ps port (pkT fr pg l : Nat) (pkS fr pg l)⟩ else ⟨0, 0, fr, d, ps⟩)
  else
    ⟨(scK fr pg d l 0 (bL (tkV ps port)) l.length).2.1, (scK fr pg d l 0 (bL (tkV ps port)) l.length).2.1, (scK fr pg d l 0 (bL (tkV ps port)) l.length).2.2.1, (scK fr pg d l 0 (bL (tkV ps port)) l.length).2.2.2, tkP ps port⟩
def moB (tx : Bool) (ps : List Prt) (port : Int) : Bool := tx || decide (0 < wtP ps port)
structure DoOk (fr : List Frm) (x : SvR) : Prop where
  frs : Frs x.fr
  len : x.fr.length = fr.length
  d : x.d < 4096
  ps : PrS x.ps
  m : x.m ≤ 36
  t : x.t ≤ 36
theorem doR_ok {tx : Bool} {pg : List Pl} {port : Int} {ps : List Prt} {fr : List Frm} {d : Nat} {l : List Dsc} (hp : PrS ps) (hF : Frs fr) (hd : d < 4096) : DoOk fr (doR tx pg port ps fr d l) := by
  unfold doR
  cases tx with
  | true =>
    rw [if_pos rfl]
    have := pkS_size fr pg l
    split
    · exact ⟨hF, rfl, hd, sndP_ok hp _ _ _, by simp only; omega, by simp⟩
    · exact ⟨hF, rfl, hd, hp, by simp, by simp⟩
  | false =>
    rw [if_neg (by decide)]
    have h := scK_ok (pg := pg) (l := l) (from_ := 0) (bs := bL (tkV ps port)) hF hd l.length
    have h1 := h.dn
    rw [bL_len] at h1
    have h2 := tkV_size hp port
    exact ⟨h.frs, h.len, h.d, tkP_ok hp _, by simp only; omega, by simp only; omega⟩
@[reducible] def nicC (p bv pv bp bi : Nat) (port : Int) (ps : List Prt) : HP := grp [portsH p ps, pt bv (cob [.pointer (some ⟨pv, 0, none⟩)] 51), pt bp (cob [.pointer (some ⟨p, 0, none⟩)] 57), pt bi (cob [.int .i64 port] 3)]
structure SvF (W0 : World) (tx : Bool) (pv ps_ pm : Nat) (pg : List Pl) (E : List Prt → HP) (port : Int) (fm : FuncId) (cm : List Value) (fd : FuncId) (cd : List Value) : Prop where
  callm : ∀ args w, (callFunc fm args).run Tryz.prog w = .ok (.enter fm args) w
  calld : ∀ args w, (callFunc fd args).run Tryz.prog w = .ok (.enter fd args) w
  more : ∀ ps R, PrS ps → Spec Tryz.prog W0 fm ([] ++ [] ++ cm) (kH 0 (E ps) :: R) (fun v B => v = .bool (moB tx ps port) ∧ B = kH 0 (E ps) :: R)
  dos : ∀ ps fr d l a c R, PrS ps → Frs fr → d < 4096 → (∀ x ∈ l, x.ok) → l.length ≤ 9 → Spec Tryz.prog W0 fd ([] ++ [.slice a l.length c] ++ cd) (osl 99 4 (.slice a l.length c) (l.flatMap dsV) :: pt pv (viO ps_ pm d) :: stoH ps_ fr :: pt pm (gmO pg) :: kH 0 (E ps) :: R)
    (fun v B => v = .tuple #[.int .i64 (doR tx pg port ps fr d l).m, .int .i64 (doR tx pg port ps fr d l).t] ∧ B = pt pv (viO ps_ pm (doR tx pg port ps fr d l).d) :: stoH ps_ (doR tx pg port ps fr d l).fr :: pt pm (gmO pg) :: kH 0 (E (doR tx pg port ps fr d l).ps) :: R)
theorem tx_svf (W0 : World) (p bv pv bp bi ps_ pm : Nat) (pg : List Pl) (h : Pgs pg) (port : Int) :
    SvF W0 true pv ps_ pm pg (nicC p bv pv bp bi port) port 103 [] 105 [.pointer (some ⟨bv, 0, none⟩), .pointer (some ⟨bp, 0, none⟩), .pointer (some ⟨bi, 0, none⟩)] := ⟨Tryz.call103, Tryz.call105, fun ps R hp => by
  refine spec_body Tryz.func103 Tryz.ntmps103 rfl rfl ?_
  refine x_seq (x_region (s_val rfl (v_assign rfl) (x_nil (n_then (x_seq (x_region (s_val rfl (v_assign rfl) (x_nil (n_then (x_ret (x_done (.inl rfl) (.cons (r_tmp rfl) .nil) ?_)))))))))))
  exact ⟨_, ⟨rfl, rfl⟩, inferInstance⟩
  , fun ps fr d l a c R hp hF hd hl hn => by
  have hT := pkT_lt hF pg l
  have hS := pkS_size fr pg l
  refine spec_ent (B := osl 99 4 (.slice a l.length c) (l.flatMap dsV) :: pt pv (viO ps_ pm d) :: stoH ps_ fr :: pt pm (gmO pg) :: portsH p ps :: pt bv (cob [.pointer (some ⟨pv, 0, none⟩)] 51) :: pt bp (cob [.pointer (some ⟨p, 0, none⟩)] 57) :: pt bi (cob [.int .i64 port] 3) :: R) (Ent.cons (Ent.cons (Ent.cons (Ent.cons ent_open)))) ?_
  refine spec_body Tryz.func105 Tryz.ntmps105 rfl rfl ?_
  refine x_seq (x_region (s_val rfl (v_assign rfl) (s_val rfl (v_assign rfl) (x_nil (n_then (x_seq (x_region (s_val rfl (v_load Tryz.isAgg51 rfl (cell_own rfl)) ?_))))))))
  refine s_val rfl (v_move rfl) ?_
  refine s_do rfl (d_call4 Tryz.call106 rfl (packet_spec W0 _ pv ps_ pm d c a fr pg h hF l hl (by omega))) ?_
  rintro _ B_ ⟨rfl, hB_⟩
  obtain rfl := hB_.symm
  refine s_val rfl (v_move rfl) (s_val rfl (v_extract rfl rfl) (s_val rfl (v_extract rfl rfl) (s_val rfl (v_extract rfl rfl) (s_val rfl (v_assign rfl) (s_val rfl (v_assign rfl) (s_val rfl (v_assign rfl) (x_nil (n_then (x_seq (x_seq (x_region (s_val rfl (v_move rfl) (s_val rfl (v_not rfl) (x_nil (n_then ?_)))))))))))))))
  refine x_if rfl ?_ ?_
  · intro c2
    refine x_seq (x_region (s_val rfl (v_assign rfl) (s_val rfl (v_assign rfl) (x_nil (n_then (x_ret (r_then (x_done (.inl rfl) (.cons (r_tmp rfl) (.cons (r_tmp rfl) .nil)) ?_))))))))
    have hb : ¬ pkB fr pg l = true := by simpa using c2
    have hD : doR true pg port ps fr d l = ⟨0, 0, fr, d, ps⟩ := by rw [doR, if_pos rfl, if_neg hb]
    rw [hD]
    exact ⟨_, ⟨rfl, rfl⟩, inferInstance⟩
  · intro c2
    have hb : pkB fr pg l = true := by simpa using c2
    have hD : doR true pg port ps fr d l = ⟨4 + (pkS fr pg l).size, 0, fr, d, sndP ps port (pkT fr pg l : Nat) (pkS fr pg l)⟩ := by rw [doR, if_pos rfl, if_pos hb]
    rw [hD]
    refine x_skip (n_then (x_seq (x_region (s_val rfl (v_load Tryz.isAgg57 rfl (cell_own rfl)) ?_))))
    refine s_val rfl (v_load Tryz.isAgg3 rfl (cell_own rfl)) ?_
    refine s_val rfl (v_move rfl) (s_val rfl (v_move rfl) ?_)
    refine s_do rfl (d_call1 Tryz.call107 rfl (prSend_spec W0 _ p ps hp.1 port (pkT fr pg l : Nat) (pkS fr pg l) (by omega))) ?_
    rintro _ B_ ⟨rfl, hB_⟩
    obtain rfl := hB_.symm
    refine x_nil (n_then (x_seq (x_region (s_val rfl (v_move rfl) (s_val rfl (v_len_string Tryz.underlying9 rfl) ?_)))))
    refine s_val rfl (v_add rfl rfl (w64 (by omega))) ?_
    refine s_val rfl (v_assign rfl) (s_val rfl (v_assign rfl) (x_nil (n_then (x_ret (x_done (.inl rfl) (.cons (r_tmp rfl) (.cons (r_tmp rfl) .nil)) ?_)))))
    exact ⟨_, ⟨rfl, rfl⟩, inferInstance⟩
  ⟩
theorem rx_svf (W0 : World) (p bv pv bp bi ps_ pm : Nat) (pg : List Pl) (h : Pgs pg) (port : Int) :
    SvF W0 false pv ps_ pm pg (nicC p bv pv bp bi port) port 113 [.pointer (some ⟨bp, 0, none⟩), .pointer (some ⟨bi, 0, none⟩)] 114 [.pointer (some ⟨bp, 0, none⟩), .pointer (some ⟨bi, 0, none⟩), .pointer (some ⟨bv, 0, none⟩)] := ⟨Tryz.call113, Tryz.call114, fun ps R hp => by
  refine spec_ent (B := portsH p ps :: pt bv (cob [.pointer (some ⟨pv, 0, none⟩)] 51) :: pt bp (cob [.pointer (some ⟨p, 0, none⟩)] 57) :: pt bi (cob [.int .i64 port] 3) :: R) ent_open ?_
  refine spec_body Tryz.func113 Tryz.ntmps113 rfl rfl ?_
  refine x_seq (x_region (s_val rfl (v_assign rfl) (x_nil (n_then (x_seq (x_region (s_val rfl (v_load Tryz.isAgg57 rfl (cell_own rfl)) ?_)))))))
  refine s_val rfl (v_load Tryz.isAgg3 rfl (cell_own rfl)) ?_
  refine s_do rfl (d_call1 Tryz.call39 rfl (prWaits_spec W0 _ p ps port)) ?_
  rintro _ B_ ⟨rfl, hB_⟩
  obtain rfl := hB_.symm
  refine s_val rfl (v_gtr rfl rfl) (s_val rfl (v_assign rfl) (x_nil (n_then (x_ret (x_done (.inl rfl) (.cons (r_tmp rfl) .nil) ?_)))))
  refine ⟨_, ⟨?_, rfl⟩, inferInstance⟩
  refine congrArg Value.bool ?_
  rw [Bool.eq_iff_iff, moB, Bool.false_or]; simp
  , fun ps fr d l a c R hp hF hd hl hn => by
  have hsz := tkV_size hp port
  have hD : doR false pg port ps fr d l = ⟨(scK fr pg d l 0 (bL (tkV ps port)) l.length).2.1, (scK fr pg d l 0 (bL (tkV ps port)) l.length).2.1, (scK fr pg d l 0 (bL (tkV ps port)) l.length).2.2.1, (scK fr pg d l 0 (bL (tkV ps port)) l.length).2.2.2, tkP ps port⟩ := by rw [doR, if_neg (by decide)]
  rw [hD]
  obtain ⟨s, hs⟩ : ∃ s, tkV ps port = s := ⟨_, rfl⟩
  rw [hs] at hsz ⊢
  have hbl := bL_len s
  refine spec_ent (B := osl 99 4 (.slice a l.length c) (l.flatMap dsV) :: pt pv (viO ps_ pm d) :: stoH ps_ fr :: pt pm (gmO pg) :: portsH p ps :: pt bv (cob [.pointer (some ⟨pv, 0, none⟩)] 51) :: pt bp (cob [.pointer (some ⟨p, 0, none⟩)] 57) :: pt bi (cob [.int .i64 port] 3) :: R) (Ent.cons (Ent.cons (Ent.cons (Ent.cons ent_open)))) ?_
  refine spec_body Tryz.func114 Tryz.ntmps114 rfl rfl ?_
  refine x_seq (x_region (s_val rfl (v_assign rfl) (s_val rfl (v_assign rfl) (x_nil (n_then (x_seq (x_region (s_val rfl (v_load Tryz.isAgg57 rfl (cell_own rfl)) ?_))))))))
  refine s_val rfl (v_load Tryz.isAgg3 rfl (cell_own rfl)) ?_
  refine s_do rfl (d_call1 Tryz.call98 rfl (prTake_spec W0 _ p ps hp.1 port)) ?_
  rintro _ B_ ⟨rfl, hB_⟩
  obtain rfl := hB_.symm
  rw [hs]
  refine s_val rfl (v_move rfl) (s_val rfl (v_extract rfl rfl) (s_val rfl (v_extract rfl rfl) (s_val rfl (v_assign rfl) (s_val rfl (v_assign rfl) (x_nil (n_then (x_seq ?_)))))))
  refine run_form (E := 99) (sz := 4) (a := a) (c := c) (n := l.length) (ys := l.flatMap dsV) (fun hf1 => ?_)
  refine x_region (s_val rfl (v_load Tryz.isAgg51 rfl (cell_own rfl)) ?_)
  refine s_val rfl (v_move rfl) (s_val rfl (v_move rfl) (s_do rfl (d_strb Tryz.underlying9 Tryz.underlying44 Tryz.underlying5 rfl) ?_))
  rintro _ B_ ⟨b, cb, arr, mk, rfl, hcb, har, hB_⟩
  obtain rfl := hB_.symm
  rw [← hbl] at hcb ⊢
  refine s_do rfl (d_call3 Tryz.call115 rfl (chScatter_spec W0 _ pv ps_ pm d c cb a (some ⟨b, 0, none⟩) fr pg h hF hd l (sla_cells hf1 (cells_osl (E := 99) (sz := 4) (a := a) (n := l.length) (c := c)) (fun _ => rfl) rfl (by decide)) hl (by omega) 0 (by decide) (bL s) (bL_by s) (sla_byV (cells_obj har)) (by omega) hcb)) ?_
  rintro _ B_ ⟨rfl, hB_⟩
  obtain rfl := hB_.symm
  refine s_val rfl (v_assign rfl) (x_nil (n_then (x_seq (x_region (s_val rfl (v_move rfl) (s_val rfl (v_move rfl) (s_val rfl (v_assign rfl) (s_val rfl (v_assign rfl) (x_nil (n_then (x_ret (x_done (.inl rfl) (.cons (r_tmp rfl) (.cons (r_tmp rfl) .nil)) ?_))))))))))))
  exact ⟨_, ⟨rfl, rfl⟩, inferInstance⟩
  ⟩
end Go.Proofs.YtlnmofhehcilhaaGreat
