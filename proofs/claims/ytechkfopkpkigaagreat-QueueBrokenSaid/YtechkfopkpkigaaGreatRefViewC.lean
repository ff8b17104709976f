/-
  The reference of layer 16: own bytes.
-/
import Derived.Test.YtechkfopkpkigaaGreatRefViewB
import Derived.Test.YtechkfopkpkigaaGreatViewF
namespace Go.Proofs.YtechkfopkpkigaaGreat
open Go.RowKit
set_option linter.unusedSimpArgs false
set_option linter.unusedVariables false
set_option maxRecDepth 20000

theorem frmB_iff {len : Nat} {pg : List Pl} {n : Int} : frmB len pg n = true ↔ thereB pg n = true ∧ n < 8 ∧ (gGot pg n).1 < len := by
  unfold frmB; rw [Bool.and_eq_true, Bool.and_eq_true]
  exact ⟨fun h => ⟨h.1.1, of_decide_eq_true h.1.2, of_decide_eq_true h.2⟩, fun h => ⟨⟨h.1, decide_eq_true h.2.1⟩, decide_eq_true h.2.2⟩⟩
def plcV (len : Nat) (pg : List Pl) (a : Nat) : Value := if frmB len pg (pgI a) then .tuple #[.int .i64 (whr pg a), .int .i64 (a % 64 : Nat), .bool true] else .tuple #[.int .i64 0, .int .i64 0, .bool false]
theorem rvPlace_spec (W0 : World) (R : List HP) (qv qs qm d : Nat) (fr : List Frm) (pg : List Pl) (h : Pgs pg) (pa : Nat) (hpa : pa < 4294967296) :
    Spec Tryz.prog W0 173 [.pointer (some ⟨qv, 0, none⟩), .int .i64 pa] (pt qv (rvO qs qm d) :: rstoH qs fr :: pt qm (rgO pg) :: R)
      (fun v B => v = plcV fr.length pg pa ∧ B = pt qv (rvO qs qm d) :: rstoH qs fr :: pt qm (rgO pg) :: R) := by
  refine spec_body Tryz.func173 Tryz.ntmps173 rfl rfl ?_
  refine x_seq ?_
  refine x_region ?_
  refine s_val rfl (v_assign rfl) ?_
  refine s_val rfl (v_assign rfl) ?_
  refine s_val rfl (v_assign rfl) ?_
  refine x_nil ?_
  refine n_then ?_
  refine x_seq ?_
  refine x_region ?_
  refine s_val rfl (v_move rfl) ?_
  refine s_val rfl (v_quo rfl rfl (by decide) ((congrArg (IntKind.wrap .i64) (tdivN pa 64)).trans (w64 (by omega)))) ?_
  refine s_val rfl (v_assign rfl) ?_
  refine x_nil ?_
  refine n_then ?_
  refine x_seq ?_
  refine x_seq ?_
  refine x_region ?_
  refine s_val rfl (v_move rfl) ?_
  refine s_val rfl (v_geq rfl rfl) ?_
  refine x_nil ?_
  refine n_then ?_
  refine x_if rfl ?_ ?_
  · intro c2
    refine x_seq ?_
    refine x_region ?_
    refine s_val rfl (v_assign rfl) ?_
    refine s_val rfl (v_assign rfl) ?_
    refine s_val rfl (v_assign rfl) ?_
    refine x_nil ?_
    refine n_then ?_
    refine x_ret ?_
    refine r_then ?_
    refine x_done (.inl rfl) (.cons (r_tmp rfl) (.cons (r_tmp rfl) (.cons (r_tmp rfl) .nil))) ?_
    refine ⟨_, ⟨?_, rfl⟩, inferInstance⟩
    have hb : frmB fr.length pg (pgI pa) = false := by
      rw [← Bool.not_eq_true]; rw [frmB_iff, pgI]; rintro ⟨_, q, _⟩; omega
    simp [pack, plcV, hb]
  · intro c2
    refine x_skip ?_
    refine n_then ?_
    refine x_seq ?_
    refine x_region ?_
    refine s_val rfl (v_move rfl) ?_
    refine s_val rfl (v_nilCheck rfl) ?_
    refine s_val rfl (v_fieldAddr rfl Tryz.underlying119 rfl Tryz.sizeOf116 rfl (by first | exact Nat.zero_add _ | rfl)) ?_
    refine s_val rfl (v_load Tryz.isAgg116 rfl (cell_own rfl)) ?_
    refine s_val rfl (v_move rfl) ?_
    refine s_do rfl (d_call1 Tryz.call201 rfl (rgGet_spec W0 _ qm pg h ((pa / 64 : Nat) : Int))) ?_
    rintro _ B_ ⟨rfl, hB_⟩
    obtain rfl := hB_.symm
    refine s_val rfl (v_move rfl) ?_
    refine s_val rfl (v_extract rfl rfl) ?_
    refine s_val rfl (v_extract rfl rfl) ?_
    refine s_do rfl (d_allocA Tryz.zeroValue156) ?_
    rintro _ _ ⟨bp, rfl, rfl⟩
    refine s_do0 (d_storeAll Tryz.sizeOf156 rfl rfl rfl rfl rfl) ?_
    rintro _ _ rfl
    refine s_val rfl (v_assign rfl) ?_
    refine x_nil ?_
    refine n_then ?_
    refine x_seq ?_
    refine x_seq ?_
    refine x_draw [(bp, 0, _), (qv, 0, _)] 12 mixed rfl (sc_own (sc_own sc_end)) (fun hS => ?_)
    refine d_take 0 rfl rfl (by kernel_rfl) (by kernel_rfl) (by kernel_rfl) rfl hS (v_move rfl) ?_
    refine d_take 1 rfl rfl (by kernel_rfl) (by kernel_rfl) (by kernel_rfl) rfl hS (v_not rfl) ?_
    refine d_take 2 rfl rfl (by kernel_rfl) (by kernel_rfl) (by kernel_rfl) rfl hS (v_move rfl) ?_
    refine x_split (t := 25) rfl ?_ ?_
    · intro g5_3
      refine d_skip 3 rfl rfl (by kernel_rfl) (by kernel_rfl) (by kernel_rfl) rfl hS ?_
      refine d_skip 4 rfl rfl (by kernel_rfl) (by kernel_rfl) (by kernel_rfl) rfl hS ?_
      refine d_skip 5 rfl rfl (by kernel_rfl) (by kernel_rfl) (by kernel_rfl) rfl hS ?_
      refine d_skip 6 rfl rfl (by kernel_rfl) (by kernel_rfl) (by kernel_rfl) rfl hS ?_
      refine d_skip 7 rfl rfl (by kernel_rfl) (by kernel_rfl) (by kernel_rfl) rfl hS ?_
      refine d_skip 8 rfl rfl (by kernel_rfl) (by kernel_rfl) (by kernel_rfl) rfl hS ?_
      refine d_skip 9 rfl rfl (by kernel_rfl) (by kernel_rfl) (by kernel_rfl) rfl hS ?_
      refine d_skip 10 rfl rfl (by kernel_rfl) (by kernel_rfl) (by kernel_rfl) rfl hS ?_
      refine d_take 11 rfl rfl (by kernel_rfl) (by kernel_rfl) (by kernel_rfl) rfl hS (v_pick_t rfl rfl) ?_
      refine d_done (by kernel_rfl) ?_; clear hS
      refine n_then ?_
      refine x_ift rfl ?_
      refine x_seq ?_
      refine x_region ?_
      refine s_val rfl (v_assign rfl) ?_
      refine s_val rfl (v_assign rfl) ?_
      refine s_val rfl (v_assign rfl) ?_
      refine x_nil ?_
      refine n_then ?_
      refine x_ret ?_
      refine r_then ?_
      refine x_done (.inl rfl) (.cons (r_tmp rfl) (.cons (r_tmp rfl) (.cons (r_tmp rfl) .nil))) ?_
      refine ⟨_, ⟨?_, rfl⟩, inferInstance⟩
      have hb : frmB fr.length pg (pgI pa) = false := by
        rw [← Bool.not_eq_true]; rw [frmB_iff, pgI]
        rintro ⟨q1, q2, q3⟩
        first
          | exact g5_3 q1
          | (have hk := okPl_iff.1 (gGot_ok h q1); rw [isF_iff] at c5; omega)
      simp [pack, plcV, hb]
    · intro g5_3
      refine d_take 3 rfl rfl (by kernel_rfl) (by kernel_rfl) (by kernel_rfl) rfl hS (v_move rfl) ?_
      refine d_take 4 rfl rfl (by kernel_rfl) (by kernel_rfl) (by kernel_rfl) rfl hS (v_nilCheck rfl) ?_
      refine d_take 5 rfl rfl (by kernel_rfl) (by kernel_rfl) (by kernel_rfl) rfl hS (v_fieldAddr rfl Tryz.underlying119 rfl Tryz.sizeOf115 rfl (by first | exact Nat.zero_add _ | rfl)) ?_
      refine d_take 6 rfl rfl (by kernel_rfl) (by kernel_rfl) (by kernel_rfl) rfl hS (v_load Tryz.isAgg115 rfl (by first | exact cell_sc0 (k := 0) rfl rfl | exact cell_sc0 (k := 1) rfl rfl)) ?_
      refine d_take 7 rfl rfl (by kernel_rfl) (by kernel_rfl) (by kernel_rfl) rfl hS (v_fieldAddr rfl Tryz.underlying156 rfl Tryz.sizeOf3 rfl (by first | exact Nat.zero_add _ | rfl)) ?_
      refine d_take 8 rfl rfl (by kernel_rfl) (by kernel_rfl) (by kernel_rfl) rfl hS (v_load Tryz.isAgg3 rfl (by first | exact cell_sc0 (k := 0) rfl rfl | exact cell_sc0 (k := 1) rfl rfl)) ?_
      refine d_one 9 (by kernel_rfl) rfl rfl (d_call1 Tryz.call202 rfl (rfIs_spec W0 _ qs fr _)) rfl ?_; clear hS
      rintro _ B_ ⟨rfl, hB_⟩
      obtain rfl := hB_.symm
      refine ⟨(sc_own (sc_own sc_end)), fun hS => ?_⟩
      refine d_take 10 rfl rfl (by kernel_rfl) (by kernel_rfl) (by kernel_rfl) rfl hS (v_not rfl) ?_
      refine d_take 11 rfl rfl (by kernel_rfl) (by kernel_rfl) (by kernel_rfl) rfl hS (v_pick_f rfl rfl) ?_
      refine d_done (by kernel_rfl) ?_; clear hS
      refine n_then ?_
      refine x_if rfl ?_ ?_
      · intro c5
        refine x_seq ?_
        refine x_region ?_
        refine s_val rfl (v_assign rfl) ?_
        refine s_val rfl (v_assign rfl) ?_
        refine s_val rfl (v_assign rfl) ?_
        refine x_nil ?_
        refine n_then ?_
        refine x_ret ?_
        refine r_then ?_
        refine x_done (.inl rfl) (.cons (r_tmp rfl) (.cons (r_tmp rfl) (.cons (r_tmp rfl) .nil))) ?_
        refine ⟨_, ⟨?_, rfl⟩, inferInstance⟩
        have hb : frmB fr.length pg (pgI pa) = false := by
          rw [← Bool.not_eq_true]; rw [frmB_iff, pgI]
          rintro ⟨q1, q2, q3⟩
          first
            | exact g5_3 q1
            | (have hk := okPl_iff.1 (gGot_ok h q1); rw [isF_iff] at c5; omega)
        simp [pack, plcV, hb]
      · intro c5
        refine x_skip ?_
        refine n_then ?_
        refine x_seq ?_
        refine x_region ?_
        refine s_val rfl (v_fieldAddr rfl Tryz.underlying156 rfl Tryz.sizeOf3 rfl (by first | exact Nat.zero_add _ | rfl)) ?_
        refine s_val rfl (v_load Tryz.isAgg3 rfl (cell_own rfl)) ?_
        refine s_val rfl (v_move rfl) ?_
        refine s_val rfl (v_rem rfl rfl (by decide) (tmodN pa 64)) ?_
        refine s_val rfl (v_assign rfl) ?_
        refine s_val rfl (v_assign rfl) ?_
        refine s_val rfl (v_assign rfl) ?_
        refine x_nil ?_
        refine n_then ?_
        refine x_ret ?_
        refine x_done (.inl rfl) (.cons (r_tmp rfl) (.cons (r_tmp rfl) (.cons (r_tmp rfl) .nil))) ?_
        refine ⟨_, ⟨?_, rfl⟩, inferInstance⟩
        have hb : frmB fr.length pg (pgI pa) = true := by
          rw [frmB_iff, pgI]
          rw [Decidable.not_not, isF_iff] at c5
          exact ⟨Decidable.not_not.1 g5_3, by omega, by omega⟩
        rw [plcV, if_pos hb]; rfl
def plF (len : Nat) (pg : List Pl) (a : Nat) : Int := if frmB len pg (pgI a) then whr pg a else 0
def plO (len : Nat) (pg : List Pl) (a : Nat) : Int := if frmB len pg (pgI a) then ((a % 64 : Nat) : Int) else 0
theorem plcV_eq {len : Nat} {pg : List Pl} {a : Nat} : plcV len pg a = .tuple #[.int .i64 (plF len pg a), .int .i64 (plO len pg a), .bool (frmB len pg (pgI a))] := by
  unfold plcV plF plO; cases frmB len pg (pgI a) <;> rfl
theorem plF_ok {len : Nat} {pg : List Pl} {a : Nat} (h : frmB len pg (pgI a) = true) : plF len pg a = whr pg a := if_pos h
theorem plO_ok {len : Nat} {pg : List Pl} {a : Nat} (h : frmB len pg (pgI a) = true) : plO len pg a = ((a % 64 : Nat) : Int) := if_pos h
theorem rvOwn_spec (W0 : World) (R : List HP) (qv qs qm d : Nat) (fr : List Frm) (pg : List Pl) (h : Pgs pg) (pa : Nat) (hpa : pa < 4294967296) (n : Int) :
    Spec Tryz.prog W0 98 [.pointer (some ⟨qv, 0, none⟩), .int .u32 pa, .int .i64 n] (pt qv (rvO qs qm d) :: rstoH qs fr :: pt qm (rgO pg) :: R)
      (fun v B => v = .bool (ownB fr.length pg pa n) ∧ B = pt qv (rvO qs qm d) :: rstoH qs fr :: pt qm (rgO pg) :: R) := by
  refine spec_body Tryz.func98 Tryz.ntmps98 rfl rfl ?_
  refine x_seq ?_
  refine x_region ?_
  refine s_val rfl (v_assign rfl) ?_
  refine x_nil ?_
  refine n_then ?_
  refine x_seq ?_
  refine x_seq ?_
  refine x_region ?_
  refine s_val rfl (v_move rfl) ?_
  refine s_val rfl (v_lss rfl rfl) ?_
  refine s_val rfl (v_move rfl) ?_
  refine s_or rfl rfl rfl ?_ ?_
  · intro g1_3
    refine s_no rfl rfl rfl rfl ?_
    refine s_val rfl (v_pick_t rfl rfl) ?_
    refine s_val rfl (v_move rfl) ?_
    refine s_no rfl rfl rfl rfl ?_
    refine s_no rfl rfl rfl rfl ?_
    refine s_no rfl rfl rfl rfl ?_
    refine s_no rfl rfl rfl rfl ?_
    refine s_no rfl rfl rfl rfl ?_
    refine s_val rfl (v_pick_t rfl rfl) ?_
    refine x_nil ?_
    refine n_then ?_
    refine x_ift rfl ?_
    refine x_seq ?_
    refine x_region ?_
    refine s_val rfl (v_assign rfl) ?_
    refine x_nil ?_
    refine n_then ?_
    refine x_ret ?_
    refine r_then ?_
    refine x_done (.inl rfl) (.cons (r_tmp rfl) .nil) ?_
    refine ⟨_, ⟨?_, rfl⟩, inferInstance⟩
    refine congrArg Value.bool (Eq.symm ?_)
    rw [← Bool.not_eq_true, ownB_iff]; omega
  · intro g1_3
    refine s_val rfl (v_move rfl) ?_
    refine s_yes rfl rfl ?_
    refine s_val rfl (v_gtr rfl rfl) ?_
    refine s_val rfl (v_pick_f rfl rfl) ?_
    refine s_val rfl (v_move rfl) ?_
    refine s_or rfl rfl rfl ?_ ?_
    · intro g1_7
      refine s_no rfl rfl rfl rfl ?_
      refine s_no rfl rfl rfl rfl ?_
      refine s_no rfl rfl rfl rfl ?_
      refine s_no rfl rfl rfl rfl ?_
      refine s_val rfl (v_pick_t rfl rfl) ?_
      refine x_nil ?_
      refine n_then ?_
      refine x_ift rfl ?_
      refine x_seq ?_
      refine x_region ?_
      refine s_val rfl (v_assign rfl) ?_
      refine x_nil ?_
      refine n_then ?_
      refine x_ret ?_
      refine r_then ?_
      refine x_done (.inl rfl) (.cons (r_tmp rfl) .nil) ?_
      refine ⟨_, ⟨?_, rfl⟩, inferInstance⟩
      refine congrArg Value.bool (Eq.symm ?_)
      rw [← Bool.not_eq_true, ownB_iff]; omega
    · intro g1_7
      refine s_val rfl (v_move rfl) ?_
      refine s_yes rfl rfl ?_
      refine s_val rfl (v_move rfl) ?_
      refine s_yes rfl rfl ?_
      refine s_val rfl (v_conv Tryz.underlying53 Tryz.underlying3 rfl (by first | exact w64 (by omega) | rfl)) ?_
      refine s_yes rfl rfl ?_
      refine s_val rfl (v_sub rfl rfl (by first | exact w64 (by omega) | rfl)) ?_
      refine s_yes rfl rfl ?_
      refine s_val rfl (v_gtr rfl rfl) ?_
      refine s_val rfl (v_pick_f rfl rfl) ?_
      refine x_nil ?_
      refine n_then ?_
      refine x_if rfl ?_ ?_
      · intro c1
        refine x_seq ?_
        refine x_region ?_
        refine s_val rfl (v_assign rfl) ?_
        refine x_nil ?_
        refine n_then ?_
        refine x_ret ?_
        refine r_then ?_
        refine x_done (.inl rfl) (.cons (r_tmp rfl) .nil) ?_
        refine ⟨_, ⟨?_, rfl⟩, inferInstance⟩
        refine congrArg Value.bool (Eq.symm ?_)
        rw [← Bool.not_eq_true, ownB_iff]; omega
      · intro c1
        refine x_skip ?_
        refine n_then ?_
        refine x_seq ?_
        refine x_seq ?_
        obtain ⟨k, rfl⟩ : ∃ k : Nat, n = (k : Int) := ⟨n.toNat, by omega⟩
        have hk : pa + k ≤ 512 := by omega
        refine x_region ?_
        refine s_val rfl (v_assign rfl) ?_
        refine x_nil ?_
        refine n_then ?_
        refine x_block ?_
        refine x_loop (fun i : Nat => i ≤ k ∧ ownA fr.length pg pa i) (fun i => [(0, .pointer (some ⟨qv, 0, none⟩)), (1, .int .u32 pa), (2, .int .i64 k), (7, .int .i64 i)]) (fun i => pt qv (rvO qs qm d) :: rstoH qs fr :: pt qm (rgO pg) :: R) (fun i => k - i) 0 ?_ ?_ ?_ ?_
        · exact ⟨Nat.zero_le _, fun i hi => by omega⟩
        · repeat (first | exact sub_nil | refine sub_cons rfl ?_)
        · exact inferInstance
        · intro i ⟨hi, hI⟩
          refine x_seq ?_
          refine x_seq ?_
          refine x_region ?_
          refine s_val rfl (v_move rfl) ?_
          refine s_val rfl (v_move rfl) ?_
          refine s_val rfl (v_lss rfl rfl) ?_
          refine x_nil ?_
          refine n_then ?_
          refine x_if rfl ?_ ?_
          · intro c4
            refine x_skip ?_
            refine n_then ?_
            refine x_seq ?_
            refine x_block ?_
            refine x_seq ?_
            refine x_region ?_
            refine s_val rfl (v_move rfl) ?_
            refine s_val rfl (v_move rfl) ?_
            refine s_val rfl (v_conv Tryz.underlying53 Tryz.underlying3 rfl (w64 (by omega))) ?_
            refine s_val rfl (v_move rfl) ?_
            refine s_val rfl (v_add rfl rfl (by rw [w64 (by omega)]; omega : IntKind.wrap .i64 ((pa : Int) + (i : Int)) = ((pa + i : Nat) : Int))) ?_
            refine s_do rfl (d_call3 Tryz.call173 rfl (rvPlace_spec W0 _ qv qs qm d fr pg h (pa + i) (by omega))) ?_
            rintro _ B_ ⟨rfl, hB_⟩
            obtain rfl := hB_.symm
            rw [plcV_eq]
            refine s_val rfl (v_move rfl) ?_
            refine s_val rfl (v_extract rfl rfl) ?_
            refine s_val rfl (v_extract rfl rfl) ?_
            refine s_val rfl (v_extract rfl rfl) ?_
            refine s_val rfl (v_assign rfl) ?_
            refine s_val rfl (v_assign rfl) ?_
            refine s_val rfl (v_assign rfl) ?_
            refine x_nil ?_
            refine n_then ?_
            refine x_seq ?_
            refine x_region ?_
            refine s_val rfl (v_move rfl) ?_
            refine s_val rfl (v_not rfl) ?_
            refine x_nil ?_
            refine n_then ?_
            refine x_if rfl ?_ ?_
            · intro c7
              refine x_seq ?_
              refine x_region ?_
              refine s_val rfl (v_assign rfl) ?_
              refine x_nil ?_
              refine n_then ?_
              refine x_ret ?_
              refine r_block ?_
              refine r_then ?_
              refine r_then ?_
              refine r_block ?_
              refine r_then ?_
              refine x_done (.inl rfl) (.cons (r_tmp rfl) .nil) ?_
              refine ⟨_, ⟨?_, rfl⟩, inferInstance⟩
              refine congrArg Value.bool (Eq.symm ?_)
              rw [← Bool.not_eq_true, ownB_nat]; exact fun q => c7 (q.2 i (by omega))
            · intro c7
              refine x_skip ?_
              refine n_block ?_
              refine n_then ?_
              refine x_region ?_
              refine s_val rfl (v_move rfl) ?_
              refine s_val rfl (v_add rfl rfl (by first | exact w64 (by omega) | rfl)) ?_
              refine s_val rfl (v_assign rfl) ?_
              refine x_nil ?_
              refine n_then ?_
              refine inv_intro (i + 1) ?_ ?_ ?_ ?_
              · exact ⟨by omega, fun j hj => by
                  rcases Nat.lt_or_ge j i with q | q
                  · exact hI j q
                  · rw [show j = i by omega]; exact Decidable.not_not.1 c7⟩
              · omega
              · repeat (first | exact sub_nil | refine sub_cons rfl ?_)
              · exact inferInstance
          · intro c4
            refine x_exit ?_
            refine e_then ?_
            refine e_then ?_
            refine e_block ?_
            refine n_then ?_
            refine x_seq ?_
            refine x_region ?_
            refine s_val rfl (v_assign rfl) ?_
            refine x_nil ?_
            refine n_then ?_
            refine x_ret ?_
            refine x_done (.inl rfl) (.cons (r_tmp rfl) .nil) ?_
            refine ⟨_, ⟨?_, rfl⟩, inferInstance⟩
            refine congrArg Value.bool (Eq.symm ?_)
            rw [ownB_nat]; exact ⟨hk, by rw [show k = i by omega]; exact hI⟩

theorem rvRead_spec (W0 : World) (R : List HP) (qv qs qm d : Nat) (fr : List Frm) (pg : List Pl) (h : Pgs pg) (hF : Frs fr) (pa : Nat) (hpa : pa < 4294967296) (n : Int) :
    Spec Tryz.prog W0 197 [.pointer (some ⟨qv, 0, none⟩), .int .u32 pa, .int .i64 n] (pt qv (rvO qs qm d) :: rstoH qs fr :: pt qm (rgO pg) :: R)
      (fun v B => ∃ a c, v = .tuple #[.slice a (rdO fr pg pa n).length c, .bool (ownB fr.length pg pa n)] ∧ B = osl 5 1 (.slice a (rdO fr pg pa n).length c) (byV (rdO fr pg pa n)) :: pt qv (rvO qs qm d) :: rstoH qs fr :: pt qm (rgO pg) :: R) := by
  by_cases ho : ownB fr.length pg pa n = true
  · obtain ⟨k, rfl⟩ : ∃ k : Nat, n = (k : Int) := ⟨n.toNat, by have := (ownB_iff.1 ho).1; omega⟩
    obtain ⟨hk, hown⟩ := ownB_nat.1 ho
    have hr : rdO fr pg pa (k : Int) = rdL fr pg pa k := by rw [rdO, if_pos ho]; rfl
    rw [hr, rdL_len, ho]
    refine spec_body Tryz.func197 Tryz.ntmps197 rfl rfl ?_
    refine x_seq ?_
    refine x_region ?_
    refine s_val rfl (v_assign rfl) ?_
    refine s_val rfl (v_assign rfl) ?_
    refine x_nil ?_
    refine n_then ?_
    refine x_seq ?_
    refine x_seq ?_
    refine x_region ?_
    refine s_val rfl (v_move rfl) ?_
    refine s_val rfl (v_move rfl) ?_
    refine s_val rfl (v_move rfl) ?_
    refine s_do rfl (d_call3 Tryz.call98 rfl (rvOwn_spec W0 _ qv qs qm d fr pg h pa hpa k)) ?_
    rintro _ B_ ⟨rfl, hB_⟩
    obtain rfl := hB_.symm
    refine s_val rfl (v_not rfl) ?_
    refine x_nil ?_
    refine n_then ?_
    refine x_if rfl ?_ ?_
    · intro c1
      exact absurd ho c1
    · intro c1
      refine x_skip ?_
      refine n_then ?_
      refine x_seq ?_
      refine x_region ?_
      refine s_val rfl (v_assign rfl) ?_
      refine x_nil ?_
      refine n_then ?_
      refine x_seq ?_
      refine x_seq ?_
      refine x_region ?_
      refine s_val rfl (v_assign rfl) ?_
      refine x_nil ?_
      refine n_then ?_
      refine x_block ?_
      refine x_loop (fun x : Nat × Option Addr × Nat => x.1 ≤ k) (fun x => [(0, .pointer (some ⟨qv, 0, none⟩)), (1, .int .u32 pa), (2, .int .i64 k), (8, .slice x.2.1 x.1 x.2.2), (9, .int .i64 x.1)]) (fun x => osl 5 1 (.slice x.2.1 x.1 x.2.2) (byV (rdL fr pg pa x.1)) :: pt qv (rvO qs qm d) :: rstoH qs fr :: pt qm (rgO pg) :: R) (fun x => k - x.1) (0, none, 0) ?_ ?_ ?_ ?_
      · simp
      · repeat (first | exact sub_nil | refine sub_cons rfl ?_)
      · exact ent_osl_nil
      · intro ⟨i, a, c⟩ hi
        dsimp only at hi ⊢
        refine x_seq ?_
        refine x_seq ?_
        refine x_region ?_
        refine s_val rfl (v_move rfl) ?_
        refine s_val rfl (v_move rfl) ?_
        refine s_val rfl (v_lss rfl rfl) ?_
        refine x_nil ?_
        refine n_then ?_
        refine x_if rfl ?_ ?_
        · intro c5
          refine x_skip ?_
          refine n_then ?_
          refine x_seq ?_
          refine x_block ?_
          refine x_seq ?_
          have hb := hown i (by omega)
          have hv := rdv_lt hF pg (pa + i)
          refine x_region ?_
          refine s_val rfl (v_move rfl) ?_
          refine s_val rfl (v_move rfl) ?_
          refine s_val rfl (v_conv Tryz.underlying53 Tryz.underlying3 rfl (w64 (by omega))) ?_
          refine s_val rfl (v_move rfl) ?_
          refine s_val rfl (v_add rfl rfl (by rw [w64 (by omega)]; omega : IntKind.wrap .i64 ((pa : Int) + (i : Int)) = ((pa + i : Nat) : Int))) ?_
          refine s_do rfl (d_call3 Tryz.call173 rfl (rvPlace_spec W0 _ qv qs qm d fr pg h (pa + i) (by omega))) ?_
          rintro _ B_ ⟨rfl, hB_⟩
          obtain rfl := hB_.symm
          rw [plcV_eq, plF_ok hb, plO_ok hb]
          refine s_val rfl (v_move rfl) ?_
          refine s_val rfl (v_extract rfl rfl) ?_
          refine s_val rfl (v_extract rfl rfl) ?_
          refine s_val rfl (v_extract rfl rfl) ?_
          refine s_val rfl (v_assign rfl) ?_
          refine s_val rfl (v_assign rfl) ?_
          refine s_val rfl (v_assign rfl) ?_
          refine x_nil ?_
          refine n_then ?_
          refine x_seq ?_
          refine x_region ?_
          refine s_val rfl (v_move rfl) ?_
          refine s_val rfl (v_nilCheck rfl) ?_
          refine s_val rfl (v_fieldAddr rfl Tryz.underlying119 rfl Tryz.sizeOf115 rfl (by first | exact Nat.zero_add _ | rfl)) ?_
          refine s_val rfl (v_load Tryz.isAgg115 rfl (cell_own rfl)) ?_
          refine s_val rfl (v_move rfl) ?_
          refine s_val rfl (v_move rfl) ?_
          refine s_do rfl (d_call1 Tryz.call237 rfl (rfLoad_spec W0 _ qs fr _ _ 1 hF)) ?_
          rintro _ B_ ⟨rfl, hB_⟩
          obtain rfl := hB_.symm
          refine s_val rfl (v_move rfl) ?_
          refine s_val rfl (v_extract rfl rfl) ?_
          refine s_val rfl (v_extract rfl rfl) ?_
          refine s_val rfl (v_assign rfl) ?_
          refine s_val rfl (v_assign rfl) ?_
          refine x_nil ?_
          refine n_then ?_
          refine x_region ?_
          refine s_val rfl (v_move rfl) ?_
          refine s_val rfl (v_move rfl) ?_
          refine s_val rfl (v_conv Tryz.underlying53 Tryz.underlying5 rfl (w8u (by rw [show ldN fr (whr pg (pa + i)) (((pa + i) % 64 : Nat) : Int) 1 = rdv fr pg (pa + i) from rfl]; omega))) ?_
          refine s_do rfl (d_sliceLit Tryz.underlying76 Tryz.sizeOf5 Tryz.zeroValue5 rfl rfl rfl rfl rfl (by decide) (by decide)) ?_
          rintro _ _ ⟨b1, rfl, rfl⟩
          refine s_do rfl (d_append (sz := 1) (by_ := 1) (info := Tryz.t5) Tryz.underlying76 (by kernel_rfl) rfl rfl rfl rfl (by decide) rfl rfl cells_all rfl rfl (by simp only [maxLen]; omega) (by omega)) ?_
          rintro _ _ ⟨a1, c1, rfl, rfl⟩
          refine s_val rfl (v_assign rfl) ?_
          refine x_nil ?_
          refine n_block ?_
          refine n_then ?_
          refine x_region ?_
          refine s_val rfl (v_move rfl) ?_
          refine s_val rfl (v_add rfl rfl (by first | exact w64 (by omega) | rfl)) ?_
          refine s_val rfl (v_assign rfl) ?_
          refine x_nil ?_
          refine n_then ?_
          refine inv_intro (i + 1, a1, c1) ?_ ?_ ?_ ?_
          · omega
          · omega
          · repeat (first | exact sub_nil | refine sub_cons rfl ?_)
          · rw [show rdL fr pg pa (i + 1) = rdL fr pg pa i ++ [rdv fr pg (pa + i)] by simp [rdL, List.range_succ], byV_append]; exact (inferInstanceAs (Ent _ (osl 5 1 (.slice a1 (i + 1) c1) (byV (rdL fr pg pa i) ++ [Value.int .u8 ((ldN fr (whr pg (pa + i)) (((pa + i) % 64 : Nat) : Int) 1 : Nat) : Int)]) :: pt qv (rvO qs qm d) :: rstoH qs fr :: pt qm (rgO pg) :: R)))
        · intro c5
          refine x_exit ?_
          refine e_then ?_
          refine e_then ?_
          refine e_block ?_
          refine n_then ?_
          refine x_seq ?_
          refine x_region ?_
          refine s_val rfl (v_move rfl) ?_
          refine s_val rfl (v_assign rfl) ?_
          refine s_val rfl (v_assign rfl) ?_
          refine x_nil ?_
          refine n_then ?_
          refine x_ret ?_
          refine x_done (.inl rfl) (.cons (r_tmp rfl) (.cons (r_tmp rfl) .nil)) ?_
          have e1 : i = k := by omega
          subst e1
          exact ⟨_, ⟨a, c, rfl, rfl⟩, inferInstance⟩
  · have hr : rdO fr pg pa n = [] := by rw [rdO, if_neg ho]
    have ho' : ownB fr.length pg pa n = false := by simpa using ho
    rw [hr, ho']
    refine spec_body Tryz.func197 Tryz.ntmps197 rfl rfl ?_
    refine x_seq ?_
    refine x_region ?_
    refine s_val rfl (v_assign rfl) ?_
    refine s_val rfl (v_assign rfl) ?_
    refine x_nil ?_
    refine n_then ?_
    refine x_seq ?_
    refine x_seq ?_
    refine x_region ?_
    refine s_val rfl (v_move rfl) ?_
    refine s_val rfl (v_move rfl) ?_
    refine s_val rfl (v_move rfl) ?_
    refine s_do rfl (d_call3 Tryz.call98 rfl (rvOwn_spec W0 _ qv qs qm d fr pg h pa hpa n)) ?_
    rintro _ B_ ⟨rfl, hB_⟩
    obtain rfl := hB_.symm
    refine s_val rfl (v_not rfl) ?_
    refine x_nil ?_
    refine n_then ?_
    refine x_if rfl ?_ ?_
    · intro c1
      refine x_seq ?_
      refine x_region ?_
      refine s_val rfl (v_assign rfl) ?_
      refine s_val rfl (v_assign rfl) ?_
      refine x_nil ?_
      refine n_then ?_
      refine x_ret ?_
      refine r_then ?_
      refine x_done (.inl rfl) (.cons (r_tmp rfl) (.cons (r_tmp rfl) .nil)) ?_
      exact ⟨_, ⟨none, 0, rfl, rfl⟩, ent_osl_nil⟩
    · intro c1
      exact absurd (by rw [ho']; decide) c1
theorem rvWrite_spec (W0 : World) (R : List HP) (qv qs qm d c : Nat) (a : Option Addr) (fr : List Frm) (pg : List Pl) (h : Pgs pg) (hF : Frs fr) (pa : Nat) (hpa : pa < 4294967296) (bs : List Nat) (hb : By bs) (hs : SlA (OwnP W0 R) a 1 (fun x => [bV x]) bs) (hlen : bs.length < 9223372036854775808) :
    Spec Tryz.prog W0 93 [.pointer (some ⟨qv, 0, none⟩), .int .u32 pa, .slice a bs.length c] (pt qv (rvO qs qm d) :: rstoH qs fr :: pt qm (rgO pg) :: R)
      (fun v B => v = .bool (ownB fr.length pg pa bs.length) ∧ B = pt qv (rvO qs qm (wrE fr pg pa d bs.length)) :: rstoH qs (wrF fr pg pa bs) :: pt qm (rgO pg) :: R) := by
  by_cases ho : ownB fr.length pg pa bs.length = true
  · obtain ⟨hk, hown⟩ := ownB_nat.1 ho
    rw [wrE, if_pos ho, wrF, if_pos ho, ho]
    refine spec_body Tryz.func93 Tryz.ntmps93 rfl rfl ?_
    refine x_seq ?_
    refine x_region ?_
    refine s_val rfl (v_assign rfl) ?_
    refine x_nil ?_
    refine n_then ?_
    refine x_seq ?_
    refine x_seq ?_
    refine x_region ?_
    refine s_val rfl (v_move rfl) ?_
    refine s_val rfl (v_move rfl) ?_
    refine s_val rfl (v_move rfl) ?_
    refine s_val rfl (v_len_slice Tryz.underlying76 rfl) ?_
    refine s_do rfl (d_call3 Tryz.call98 rfl (rvOwn_spec W0 _ qv qs qm d fr pg h pa hpa bs.length)) ?_
    rintro _ B_ ⟨rfl, hB_⟩
    obtain rfl := hB_.symm
    refine s_val rfl (v_not rfl) ?_
    refine x_nil ?_
    refine n_then ?_
    refine x_if rfl ?_ ?_
    · intro c1
      exact absurd ho c1
    · intro c1
      refine x_skip ?_
      refine n_then ?_
      refine x_seq ?_
      refine x_seq ?_
      refine x_region ?_
      refine s_val rfl (v_assign rfl) ?_
      refine x_nil ?_
      refine n_then ?_
      refine x_block ?_
      refine x_loop (fun i : Nat => i ≤ bs.length) (fun i => [(0, .pointer (some ⟨qv, 0, none⟩)), (1, .int .u32 pa), (2, .slice a bs.length c), (7, .int .i64 i)]) (fun i => pt qv (rvO qs qm (wrD d pa i)) :: rstoH qs (wrK fr pg pa bs i) :: pt qm (rgO pg) :: R) (fun i => bs.length - i) 0 ?_ ?_ ?_ ?_
      · exact Nat.zero_le _
      · repeat (first | exact sub_nil | refine sub_cons rfl ?_)
      · simp only [wrD, wrK]; exact inferInstance
      · intro i hi
        refine x_seq ?_
        refine x_seq ?_
        refine x_region ?_
        refine s_val rfl (v_move rfl) ?_
        refine s_val rfl (v_move rfl) ?_
        refine s_val rfl (v_len_slice Tryz.underlying76 rfl) ?_
        refine s_val rfl (v_lss rfl rfl) ?_
        refine x_nil ?_
        refine n_then ?_
        refine x_if rfl ?_ ?_
        · intro c4
          refine x_skip ?_
          refine n_then ?_
          refine x_seq ?_
          refine x_block ?_
          refine x_seq ?_
          have hil : i < bs.length := by omega
          have hfb := hown i hil
          obtain ⟨hFi, hli⟩ := wrK_ok (pg := pg) (pa := pa) (bs := bs) hF i
          obtain ⟨gb, ob, rfl, hc⟩ := hs.at_ hil
          have hx : bs[i] < 256 := hb.get hil
          have hg : bs.getD i 0 = bs[i] := by simp [List.getD, hil]
          refine x_region ?_
          refine s_val rfl (v_move rfl) ?_
          refine s_val rfl (v_move rfl) ?_
          refine s_val rfl (v_conv Tryz.underlying53 Tryz.underlying3 rfl (w64 (by omega))) ?_
          refine s_val rfl (v_move rfl) ?_
          refine s_val rfl (v_add rfl rfl (by rw [w64 (by omega)]; omega : IntKind.wrap .i64 ((pa : Int) + (i : Int)) = ((pa + i : Nat) : Int))) ?_
          refine s_do rfl (d_call3 Tryz.call173 rfl (rvPlace_spec W0 _ qv qs qm _ _ pg h (pa + i) (by omega))) ?_
          rintro _ B_ ⟨rfl, hB_⟩
          obtain rfl := hB_.symm
          rw [hli, plcV_eq, plF_ok hfb, plO_ok hfb]
          refine s_val rfl (v_move rfl) ?_
          refine s_val rfl (v_extract rfl rfl) ?_
          refine s_val rfl (v_extract rfl rfl) ?_
          refine s_val rfl (v_extract rfl rfl) ?_
          refine s_val rfl (v_assign rfl) ?_
          refine s_val rfl (v_assign rfl) ?_
          refine s_val rfl (v_assign rfl) ?_
          refine x_nil ?_
          refine n_then ?_
          refine x_seq ?_
          refine x_draw [(qv, 0, _), (gb, ob + i * 1, [bV bs[i]])] 12 mixed rfl (sc_own (sc_cons hc.weak sc_end)) (fun hS => ?_)
          refine d_take 0 rfl rfl (by kernel_rfl) (by kernel_rfl) (by kernel_rfl) rfl hS (v_move rfl) ?_
          refine d_take 1 rfl rfl (by kernel_rfl) (by kernel_rfl) (by kernel_rfl) rfl hS (v_nilCheck rfl) ?_
          refine d_take 2 rfl rfl (by kernel_rfl) (by kernel_rfl) (by kernel_rfl) rfl hS (v_fieldAddr rfl Tryz.underlying119 rfl Tryz.sizeOf115 rfl (by first | exact Nat.zero_add _ | rfl)) ?_
          refine d_take 3 rfl rfl (by kernel_rfl) (by kernel_rfl) (by kernel_rfl) rfl hS (v_load Tryz.isAgg115 rfl (by first | exact cell_sc0 (k := 0) rfl rfl | exact cell_sc0 (k := 1) rfl rfl)) ?_
          refine d_take 4 rfl rfl (by kernel_rfl) (by kernel_rfl) (by kernel_rfl) rfl hS (v_move rfl) ?_
          refine d_take 5 rfl rfl (by kernel_rfl) (by kernel_rfl) (by kernel_rfl) rfl hS (v_move rfl) ?_
          refine d_take 6 rfl rfl (by kernel_rfl) (by kernel_rfl) (by kernel_rfl) rfl hS (v_move rfl) ?_
          refine d_take 7 rfl rfl (by kernel_rfl) (by kernel_rfl) (by kernel_rfl) rfl hS (v_move rfl) ?_
          refine d_take 8 rfl rfl (by kernel_rfl) (by kernel_rfl) (by kernel_rfl) rfl hS (v_idx Tryz.underlying76 Tryz.sizeOf5 rfl rfl rfl hil (by first | exact Nat.zero_add _ | rfl)) ?_
          refine d_take 9 rfl rfl (by kernel_rfl) (by kernel_rfl) (by kernel_rfl) rfl hS (v_load Tryz.isAgg5 rfl (cell_sc1 (k := 1) rfl)) ?_
          refine d_take 10 rfl rfl (by kernel_rfl) (by kernel_rfl) (by kernel_rfl) rfl hS (v_conv Tryz.underlying5 Tryz.underlying53 rfl (w32u (by omega))) ?_
          refine d_one 11 (by kernel_rfl) rfl rfl (d_call1 Tryz.call144 rfl (rfSave_spec W0 _ qs _ _ _ 1 bs[i] (by omega) hFi)) rfl ?_; clear hS
          rintro _ B_ ⟨rfl, hB_⟩
          obtain rfl := hB_.symm
          refine ⟨(sc_own (sc_cons hc.weak sc_end)), fun hS => ?_⟩
          refine d_done (by kernel_rfl) ?_; clear hS
          refine n_then ?_
          refine x_region ?_
          refine s_val rfl (v_move rfl) ?_
          refine s_val rfl (v_move rfl) ?_
          refine s_val rfl (v_conv Tryz.underlying53 Tryz.underlying3 rfl (w64 (by omega))) ?_
          refine s_val rfl (v_move rfl) ?_
          refine s_val rfl (v_add rfl rfl (by rw [w64 (by omega)]; omega : IntKind.wrap .i64 ((pa : Int) + (i : Int)) = ((pa + i : Nat) : Int))) ?_
          refine s_val rfl (v_quo rfl rfl (by decide) ((congrArg (IntKind.wrap .i64) (tdivN (pa + i) 64)).trans (w64 (by omega)))) ?_
          refine s_val rfl (v_nilCheck rfl) ?_
          refine s_val rfl (v_fieldAddr rfl Tryz.underlying119 rfl Tryz.sizeOf117 rfl (by first | exact Nat.zero_add _ | rfl)) ?_
          refine s_val rfl (v_idxArr Tryz.underlying117 Tryz.sizeOf4 rfl rfl rfl (by omega) (by first | exact Nat.zero_add _ | rfl)) ?_
          refine s_do0 (d_store Tryz.sizeOf4 rfl rfl rfl (by simp [wrV]; omega) (wr_set (by omega))) ?_
          rintro _ _ rfl
          refine x_nil ?_
          refine n_block ?_
          refine n_then ?_
          refine x_region ?_
          refine s_val rfl (v_move rfl) ?_
          refine s_val rfl (v_add rfl rfl (by first | exact w64 (by omega) | rfl)) ?_
          refine s_val rfl (v_assign rfl) ?_
          refine x_nil ?_
          refine n_then ?_
          refine inv_intro (i + 1) ?_ ?_ ?_ ?_
          · omega
          · omega
          · repeat (first | exact sub_nil | refine sub_cons rfl ?_)
          · simp only [wrD, wrK, hg]; exact inferInstance
        · intro c4
          refine x_exit ?_
          refine e_then ?_
          refine e_then ?_
          refine e_block ?_
          refine n_then ?_
          refine x_seq ?_
          refine x_region ?_
          refine s_val rfl (v_assign rfl) ?_
          refine x_nil ?_
          refine n_then ?_
          refine x_ret ?_
          refine x_done (.inl rfl) (.cons (r_tmp rfl) .nil) ?_
          have e1 : i = bs.length := by omega
          subst e1
          exact ⟨_, ⟨rfl, rfl⟩, inferInstance⟩
  · have ho' : ownB fr.length pg pa bs.length = false := by simpa using ho
    rw [wrE, if_neg ho, wrF, if_neg ho, ho']
    refine spec_body Tryz.func93 Tryz.ntmps93 rfl rfl ?_
    refine x_seq ?_
    refine x_region ?_
    refine s_val rfl (v_assign rfl) ?_
    refine x_nil ?_
    refine n_then ?_
    refine x_seq ?_
    refine x_seq ?_
    refine x_region ?_
    refine s_val rfl (v_move rfl) ?_
    refine s_val rfl (v_move rfl) ?_
    refine s_val rfl (v_move rfl) ?_
    refine s_val rfl (v_len_slice Tryz.underlying76 rfl) ?_
    refine s_do rfl (d_call3 Tryz.call98 rfl (rvOwn_spec W0 _ qv qs qm d fr pg h pa hpa bs.length)) ?_
    rintro _ B_ ⟨rfl, hB_⟩
    obtain rfl := hB_.symm
    refine s_val rfl (v_not rfl) ?_
    refine x_nil ?_
    refine n_then ?_
    refine x_if rfl ?_ ?_
    · intro c1
      refine x_seq ?_
      refine x_region ?_
      refine s_val rfl (v_assign rfl) ?_
      refine x_nil ?_
      refine n_then ?_
      refine x_ret ?_
      refine r_then ?_
      refine x_done (.inl rfl) (.cons (r_tmp rfl) .nil) ?_
      exact ⟨_, ⟨rfl, rfl⟩, inferInstance⟩
    · intro c1
      exact absurd (by rw [ho']; decide) c1
theorem wrV_get {d i : Nat} {a b : Value} (h : i < 12) : (a :: b :: wrV d)[2 + i * 1]? = some (.bool (Nat.testBit d i)) := by
  rw [show 2 + i * 1 = i + 1 + 1 by omega]; simp [wrV, h]
theorem wrV_zero : wrV 0 = List.replicate 12 (.bool false) := by rfl
theorem wr_zero {a b : Value} {d : Nat} : setR (a :: b :: wrV d) 2 (List.replicate 12 (.bool false)) = a :: b :: wrV 0 := by
  have := setR_all (List.replicate 12 (.bool false)) (wrV d) [a, b] (by simp [wrV])
  rw [wrV_zero]; exact this
end Go.Proofs.YtechkfopkpkigaaGreat
