/-
  The reference of layer 16: finding, numbers.
-/
import Derived.Test.YtechkfopkpkigaaGreatViewC
import Derived.Test.YtechkfopkpkigaaGreatRefFramesB
import Derived.Test.YtechkfopkpkigaaGreatRefGmap
namespace Go.Proofs.YtechkfopkpkigaaGreat
open Go.RowKit
set_option linter.unusedSimpArgs false
set_option linter.unusedVariables false
set_option maxRecDepth 20000

theorem isF_iff {n : Nat} {f : Int} : isF n f = true ↔ 0 ≤ f ∧ f < n := by simp [isF]
def wrV (d : Nat) : List Value := (List.range 12).map (fun i => .bool (Nat.testBit d i))
abbrev rvO (qs qm d : Nat) : Obj := cob (.pointer (some ⟨qs, 0, none⟩) :: .pointer (some ⟨qm, 0, none⟩) :: wrV d) 119
theorem rvFind_spec (W0 : World) (R : List HP) (qv qs qm d : Nat) (fr : List Frm) (pg : List Pl) (h : Pgs pg) (pa : Nat) (hpa : pa < 4294967296) (w kind : Int) :
    Spec Tryz.prog W0 143 [.pointer (some ⟨qv, 0, none⟩), .int .u32 pa, .int .i64 w, .int .i64 kind] (pt qv (rvO qs qm d) :: rstoH qs fr :: pt qm (rgO pg) :: R)
      (fun v B => v = .tuple #[.agg (fndV fr.length pg pa w kind).toArray, .int .i64 (fndE fr.length pg pa w kind)] ∧ B = pt qv (rvO qs qm d) :: rstoH qs fr :: pt qm (rgO pg) :: R) := by
  refine spec_body Tryz.func143 Tryz.ntmps143 rfl rfl ?_
  refine x_seq ?_
  refine x_region ?_
  refine s_do rfl (d_allocA Tryz.zeroValue200) ?_
  rintro _ _ ⟨b1, rfl, rfl⟩
  refine s_val rfl (v_assign rfl) ?_
  refine x_nil ?_
  refine n_then ?_
  refine x_seq ?_
  refine x_seq ?_
  refine x_region ?_
  refine s_val rfl (v_move rfl) ?_
  refine s_val rfl (v_neq rfl rfl) ?_
  refine s_val rfl (v_move rfl) ?_
  refine s_and rfl rfl rfl ?_ ?_
  · intro g1_3
    refine s_val rfl (v_move rfl) ?_
    refine s_yes rfl rfl ?_
    refine s_val rfl (v_neq rfl rfl) ?_
    refine s_val rfl (v_pick_t rfl rfl) ?_
    refine s_val rfl (v_move rfl) ?_
    refine s_and rfl rfl rfl ?_ ?_
    · intro g1_7
      refine s_val rfl (v_move rfl) ?_
      refine s_yes rfl rfl ?_
      refine s_val rfl (v_neq rfl rfl) ?_
      refine s_val rfl (v_pick_t rfl rfl) ?_
      refine s_val rfl (v_move rfl) ?_
      refine s_or rfl rfl rfl ?_ ?_
      · intro g1_11
        refine s_no rfl rfl rfl rfl ?_
        refine s_no rfl rfl rfl rfl ?_
        refine s_no rfl rfl rfl rfl ?_
        refine s_no rfl rfl rfl rfl ?_
        refine s_val rfl (v_pick_t rfl rfl) ?_
        refine x_nil ?_
        refine n_then ?_
        refine x_ift rfl ?_
        refine x_seq ?_
        refine x_region ?_
        refine s_val rfl (v_build Tryz.underlying200 Tryz.zeroValue200 (sized_cons Tryz.sizeOf3 (sized_cons Tryz.sizeOf3 (sized_cons Tryz.sizeOf3 (sized_cons Tryz.sizeOf4 sized_nil)))) fil_nil) ?_
        refine s_do0 (d_storeAll Tryz.sizeOf200 rfl rfl rfl rfl rfl) ?_
        rintro _ _ rfl
        refine s_val rfl (v_assign rfl) ?_
        refine x_nil ?_
        refine n_then ?_
        refine x_ret ?_
        refine r_then ?_
        refine x_done (.inl rfl) (.cons (r_all Tryz.isAgg200 Tryz.sizeOf200 rfl rfl) (.cons (r_tmp rfl) .nil)) ?_
        refine ⟨_, ⟨?_, rfl⟩, inferInstance⟩
        have ha : alB pa w = false := by
          rw [← Bool.not_eq_true]; simp only [alB, decide_eq_true_eq]
          rintro ⟨q1, q2⟩
          first
            | omega
            | (rcases q1 with rfl | rfl | rfl <;> omega)
        have he : fndE fr.length pg pa w kind = 1 := by simp [fndE, ha]
        simp [pack, fndV, he]
      · intro g1_11
        refine s_val rfl (v_move rfl) ?_
        refine s_yes rfl rfl ?_
        refine s_val rfl (v_move rfl) ?_
        refine s_yes rfl rfl ?_
        refine s_val rfl (v_conv Tryz.underlying3 Tryz.underlying53 rfl (w32u (by omega))) ?_
        refine s_yes rfl rfl ?_
        refine s_val rfl (v_rem rfl rfl (by omega) (Int.tmod_eq_emod_of_nonneg (by omega))) ?_
        refine s_yes rfl rfl ?_
        refine s_val rfl (v_neq rfl rfl) ?_
        refine s_val rfl (v_pick_f rfl rfl) ?_
        refine x_nil ?_
        refine n_then ?_
        refine x_if rfl ?_ ?_
        · intro c1
          refine x_seq ?_
          refine x_region ?_
          refine s_val rfl (v_build Tryz.underlying200 Tryz.zeroValue200 (sized_cons Tryz.sizeOf3 (sized_cons Tryz.sizeOf3 (sized_cons Tryz.sizeOf3 (sized_cons Tryz.sizeOf4 sized_nil)))) fil_nil) ?_
          refine s_do0 (d_storeAll Tryz.sizeOf200 rfl rfl rfl rfl rfl) ?_
          rintro _ _ rfl
          refine s_val rfl (v_assign rfl) ?_
          refine x_nil ?_
          refine n_then ?_
          refine x_ret ?_
          refine r_then ?_
          refine x_done (.inl rfl) (.cons (r_all Tryz.isAgg200 Tryz.sizeOf200 rfl rfl) (.cons (r_tmp rfl) .nil)) ?_
          refine ⟨_, ⟨?_, rfl⟩, inferInstance⟩
          have ha : alB pa w = false := by
            rw [← Bool.not_eq_true]; simp only [alB, decide_eq_true_eq]
            rintro ⟨q1, q2⟩
            first
              | omega
              | (rcases q1 with rfl | rfl | rfl <;> omega)
          have he : fndE fr.length pg pa w kind = 1 := by simp [fndE, ha]
          simp [pack, fndV, he]
        · intro c1
          have ha : alB pa w = true := by
            simp only [alB, decide_eq_true_eq]
            refine ⟨by omega, ?_⟩
            have : w = 1 ∨ w = 2 ∨ w = 4 := by omega
            rcases this with rfl | rfl | rfl <;> omega
          refine x_skip ?_
          refine n_then ?_
          refine x_seq ?_
          refine x_seq ?_
          refine x_region ?_
          refine s_val rfl (v_move rfl) ?_
          refine s_val rfl (v_geq rfl rfl) ?_
          refine x_nil ?_
          refine n_then ?_
          refine x_if rfl ?_ ?_
          · intro c3
            refine x_seq ?_
            refine x_region ?_
            refine s_val rfl (v_build Tryz.underlying200 Tryz.zeroValue200 (sized_cons Tryz.sizeOf3 (sized_cons Tryz.sizeOf3 (sized_cons Tryz.sizeOf3 (sized_cons Tryz.sizeOf4 sized_nil)))) fil_nil) ?_
            refine s_do0 (d_storeAll Tryz.sizeOf200 rfl rfl rfl rfl rfl) ?_
            rintro _ _ rfl
            refine s_val rfl (v_assign rfl) ?_
            refine x_nil ?_
            refine n_then ?_
            refine x_ret ?_
            refine r_then ?_
            refine x_done (.inl rfl) (.cons (r_all Tryz.isAgg200 Tryz.sizeOf200 rfl rfl) (.cons (r_tmp rfl) .nil)) ?_
            refine ⟨_, ⟨?_, rfl⟩, inferInstance⟩
            have he : fndE fr.length pg pa w kind = 2 := by unfold fndE; rw [if_pos ha, if_neg (by omega)]
            simp [pack, fndV, he]
          · intro c3
            refine x_skip ?_
            refine n_then ?_
            refine x_seq ?_
            refine x_region ?_
            refine s_val rfl (v_move rfl) ?_
            refine s_val rfl (v_quo rfl rfl (by decide) ((congrArg (IntKind.wrap .u32) (tdivN pa 64)).trans (w32u (by omega)))) ?_
            refine s_val rfl (v_conv Tryz.underlying53 Tryz.underlying3 rfl (w64 (by omega))) ?_
            refine s_val rfl (v_assign rfl) ?_
            refine x_nil ?_
            refine n_then ?_
            refine x_seq ?_
            refine x_region ?_
            refine s_val rfl (v_move rfl) ?_
            refine s_val rfl (v_nilCheck rfl) ?_
            refine s_val rfl (v_fieldAddr rfl Tryz.underlying119 rfl Tryz.sizeOf116 rfl (by first | exact Nat.zero_add _ | rfl)) ?_
            refine s_val rfl (v_load Tryz.isAgg116 rfl (cell_own rfl)) ?_
            refine s_val rfl (v_move rfl) ?_
            refine s_val rfl (v_move rfl) ?_
            refine s_do rfl (d_call1 Tryz.call200 rfl (rgAllows_spec W0 _ qm pg h ((pa / 64 : Nat) : Int) kind)) ?_
            rintro _ B_ ⟨rfl, hB_⟩
            obtain rfl := hB_.symm
            refine s_val rfl (v_assign rfl) ?_
            refine x_nil ?_
            refine n_then ?_
            refine x_seq ?_
            refine x_seq ?_
            refine x_region ?_
            refine s_val rfl (v_move rfl) ?_
            refine s_val rfl (v_neq rfl rfl) ?_
            refine x_nil ?_
            refine n_then ?_
            refine x_if rfl ?_ ?_
            · intro c7
              refine x_seq ?_
              refine x_region ?_
              refine s_val rfl (v_build Tryz.underlying200 Tryz.zeroValue200 (sized_cons Tryz.sizeOf3 (sized_cons Tryz.sizeOf3 (sized_cons Tryz.sizeOf3 (sized_cons Tryz.sizeOf4 sized_nil)))) fil_nil) ?_
              refine s_val rfl (v_move rfl) ?_
              refine s_do0 (d_storeAll Tryz.sizeOf200 rfl rfl rfl rfl rfl) ?_
              rintro _ _ rfl
              refine s_val rfl (v_assign rfl) ?_
              refine x_nil ?_
              refine n_then ?_
              refine x_ret ?_
              refine r_then ?_
              refine x_done (.inl rfl) (.cons (r_all Tryz.isAgg200 Tryz.sizeOf200 rfl rfl) (.cons (r_tmp rfl) .nil)) ?_
              refine ⟨_, ⟨?_, rfl⟩, inferInstance⟩
              have he : fndE fr.length pg pa w kind = alwE pg ((pa / 64 : Nat) : Int) kind := by unfold fndE; rw [if_pos ha, if_pos (by omega), if_neg c7]
              rw [fndV, if_neg (by rw [he]; exact c7), he]; rfl
            · intro c7
              have hz : alwE pg ((pa / 64 : Nat) : Int) kind = 0 := by simpa using c7
              have hth : thereB pg ((pa / 64 : Nat) : Int) = true := by
                unfold alwE at hz; split at hz
                · assumption
                · omega
              have hk := okPl_iff.1 (gGot_ok h hth)
              refine x_skip ?_
              refine n_then ?_
              refine x_seq ?_
              refine x_region ?_
              refine s_val rfl (v_move rfl) ?_
              refine s_val rfl (v_nilCheck rfl) ?_
              refine s_val rfl (v_fieldAddr rfl Tryz.underlying119 rfl Tryz.sizeOf116 rfl (by first | exact Nat.zero_add _ | rfl)) ?_
              refine s_val rfl (v_load Tryz.isAgg116 rfl (cell_own rfl)) ?_
              refine s_val rfl (v_move rfl) ?_
              refine s_do rfl (d_call1 Tryz.call201 rfl (rgGet_spec W0 _ qm pg h ((pa / 64 : Nat) : Int))) ?_
              rintro _ B_ ⟨rfl, hB_⟩
              obtain rfl := hB_.symm
              refine s_val rfl (v_move rfl) ?_
              refine s_val rfl (v_extract rfl rfl) ?_
              refine s_val rfl (v_extract rfl rfl) ?_
              refine s_do rfl (d_allocA Tryz.zeroValue156) ?_
              rintro _ _ ⟨bp, rfl, rfl⟩
              refine s_do0 (d_storeAll Tryz.sizeOf156 rfl rfl rfl rfl rfl) ?_
              rintro _ _ rfl
              refine s_val rfl (v_assign rfl) ?_
              refine x_nil ?_
              refine n_then ?_
              refine x_seq ?_
              refine x_seq ?_
              refine x_draw [(bp, 0, _), (qv, 0, _)] 8 mixed rfl (sc_own (sc_own sc_end)) (fun hS => ?_)
              refine d_take 0 rfl rfl (by kernel_rfl) (by kernel_rfl) (by kernel_rfl) rfl hS (v_move rfl) ?_
              refine d_take 1 rfl rfl (by kernel_rfl) (by kernel_rfl) (by kernel_rfl) rfl hS (v_nilCheck rfl) ?_
              refine d_take 2 rfl rfl (by kernel_rfl) (by kernel_rfl) (by kernel_rfl) rfl hS (v_fieldAddr rfl Tryz.underlying119 rfl Tryz.sizeOf115 rfl (by first | exact Nat.zero_add _ | rfl)) ?_
              refine d_take 3 rfl rfl (by kernel_rfl) (by kernel_rfl) (by kernel_rfl) rfl hS (v_load Tryz.isAgg115 rfl (by first | exact cell_sc0 (k := 0) rfl rfl | exact cell_sc0 (k := 1) rfl rfl)) ?_
              refine d_take 4 rfl rfl (by kernel_rfl) (by kernel_rfl) (by kernel_rfl) rfl hS (v_fieldAddr rfl Tryz.underlying156 rfl Tryz.sizeOf3 rfl (by first | exact Nat.zero_add _ | rfl)) ?_
              refine d_take 5 rfl rfl (by kernel_rfl) (by kernel_rfl) (by kernel_rfl) rfl hS (v_load Tryz.isAgg3 rfl (by first | exact cell_sc0 (k := 0) rfl rfl | exact cell_sc0 (k := 1) rfl rfl)) ?_
              refine d_one 6 (by kernel_rfl) rfl rfl (d_call1 Tryz.call202 rfl (rfIs_spec W0 _ qs fr _)) rfl ?_; clear hS
              rintro _ B_ ⟨rfl, hB_⟩
              obtain rfl := hB_.symm
              refine ⟨(sc_own (sc_own sc_end)), fun hS => ?_⟩
              refine d_take 7 rfl rfl (by kernel_rfl) (by kernel_rfl) (by kernel_rfl) rfl hS (v_not rfl) ?_
              refine d_done (by kernel_rfl) ?_; clear hS
              refine n_then ?_
              refine x_if rfl ?_ ?_
              · intro c10
                refine x_seq ?_
                refine x_region ?_
                refine s_val rfl (v_build Tryz.underlying200 Tryz.zeroValue200 (sized_cons Tryz.sizeOf3 (sized_cons Tryz.sizeOf3 (sized_cons Tryz.sizeOf3 (sized_cons Tryz.sizeOf4 sized_nil)))) fil_nil) ?_
                refine s_do0 (d_storeAll Tryz.sizeOf200 rfl rfl rfl rfl rfl) ?_
                rintro _ _ rfl
                refine s_val rfl (v_assign rfl) ?_
                refine x_nil ?_
                refine n_then ?_
                refine x_ret ?_
                refine r_then ?_
                refine x_done (.inl rfl) (.cons (r_all Tryz.isAgg200 Tryz.sizeOf200 rfl rfl) (.cons (r_tmp rfl) .nil)) ?_
                refine ⟨_, ⟨?_, rfl⟩, inferInstance⟩
                have hn : ¬ (gGot pg ((pa / 64 : Nat) : Int)).1 < fr.length := by
                  rw [isF_iff] at c10; omega
                have he : fndE fr.length pg pa w kind = 7 := by unfold fndE; rw [if_pos ha, if_pos (by omega), if_pos hz, if_neg hn]
                simp [pack, fndV, he]
              · intro c10
                refine x_skip ?_
                refine n_then ?_
                refine x_seq ?_
                refine x_region ?_
                refine s_val rfl (v_move rfl) ?_
                refine s_val rfl (v_fieldAddr rfl Tryz.underlying156 rfl Tryz.sizeOf3 rfl (by first | exact Nat.zero_add _ | rfl)) ?_
                refine s_val rfl (v_load Tryz.isAgg3 rfl (cell_own rfl)) ?_
                refine s_val rfl (v_move rfl) ?_
                refine s_val rfl (v_rem rfl rfl (by decide) (tmodN pa 64)) ?_
                refine s_val rfl (v_conv Tryz.underlying53 Tryz.underlying3 rfl (w64 (by omega))) ?_
                refine s_val rfl (v_build Tryz.underlying200 Tryz.zeroValue200 (sized_cons Tryz.sizeOf3 (sized_cons Tryz.sizeOf3 (sized_cons Tryz.sizeOf3 (sized_cons Tryz.sizeOf4 sized_nil)))) (fil_scal rfl Tryz.sizeOf3 rfl rfl (Nat.le_of_ble_eq_true rfl) SetL.eq (fil_scal rfl Tryz.sizeOf3 rfl rfl (Nat.le_of_ble_eq_true rfl) SetL.eq (fil_scal rfl Tryz.sizeOf3 rfl rfl (Nat.le_of_ble_eq_true rfl) SetL.eq fil_nil)))) ?_
                refine s_do0 (d_storeAll Tryz.sizeOf200 rfl rfl rfl rfl rfl) ?_
                rintro _ _ rfl
                refine s_val rfl (v_assign rfl) ?_
                refine x_nil ?_
                refine n_then ?_
                refine x_ret ?_
                refine x_done (.inl rfl) (.cons (r_all Tryz.isAgg200 Tryz.sizeOf200 rfl rfl) (.cons (r_tmp rfl) .nil)) ?_
                refine ⟨_, ⟨?_, rfl⟩, inferInstance⟩
                have hn : (gGot pg ((pa / 64 : Nat) : Int)).1 < fr.length := by
                  rw [isF_iff] at c10; omega
                have he : fndE fr.length pg pa w kind = 0 := by unfold fndE; rw [if_pos ha, if_pos (by omega), if_pos hz, if_pos hn]
                simp [pack, fndV, he]
    · intro g1_7
      refine s_no rfl rfl rfl rfl ?_
      refine s_val rfl (v_pick_f rfl rfl) ?_
      refine s_val rfl (v_move rfl) ?_
      refine s_yes rfl rfl ?_
      refine s_val rfl (v_move rfl) ?_
      refine s_yes rfl rfl ?_
      refine s_val rfl (v_move rfl) ?_
      refine s_yes rfl rfl ?_
      refine s_val rfl (v_conv Tryz.underlying3 Tryz.underlying53 rfl (w32u (by omega))) ?_
      refine s_yes rfl rfl ?_
      refine s_val rfl (v_rem rfl rfl (by omega) (Int.tmod_eq_emod_of_nonneg (by omega))) ?_
      refine s_yes rfl rfl ?_
      refine s_val rfl (v_neq rfl rfl) ?_
      refine s_val rfl (v_pick_f rfl rfl) ?_
      refine x_nil ?_
      refine n_then ?_
      refine x_if rfl ?_ ?_
      · intro c1
        refine x_seq ?_
        refine x_region ?_
        refine s_val rfl (v_build Tryz.underlying200 Tryz.zeroValue200 (sized_cons Tryz.sizeOf3 (sized_cons Tryz.sizeOf3 (sized_cons Tryz.sizeOf3 (sized_cons Tryz.sizeOf4 sized_nil)))) fil_nil) ?_
        refine s_do0 (d_storeAll Tryz.sizeOf200 rfl rfl rfl rfl rfl) ?_
        rintro _ _ rfl
        refine s_val rfl (v_assign rfl) ?_
        refine x_nil ?_
        refine n_then ?_
        refine x_ret ?_
        refine r_then ?_
        refine x_done (.inl rfl) (.cons (r_all Tryz.isAgg200 Tryz.sizeOf200 rfl rfl) (.cons (r_tmp rfl) .nil)) ?_
        refine ⟨_, ⟨?_, rfl⟩, inferInstance⟩
        have ha : alB pa w = false := by
          rw [← Bool.not_eq_true]; simp only [alB, decide_eq_true_eq]
          rintro ⟨q1, q2⟩
          first
            | omega
            | (rcases q1 with rfl | rfl | rfl <;> omega)
        have he : fndE fr.length pg pa w kind = 1 := by simp [fndE, ha]
        simp [pack, fndV, he]
      · intro c1
        have ha : alB pa w = true := by
          simp only [alB, decide_eq_true_eq]
          refine ⟨by omega, ?_⟩
          have : w = 1 ∨ w = 2 ∨ w = 4 := by omega
          rcases this with rfl | rfl | rfl <;> omega
        refine x_skip ?_
        refine n_then ?_
        refine x_seq ?_
        refine x_seq ?_
        refine x_region ?_
        refine s_val rfl (v_move rfl) ?_
        refine s_val rfl (v_geq rfl rfl) ?_
        refine x_nil ?_
        refine n_then ?_
        refine x_if rfl ?_ ?_
        · intro c3
          refine x_seq ?_
          refine x_region ?_
          refine s_val rfl (v_build Tryz.underlying200 Tryz.zeroValue200 (sized_cons Tryz.sizeOf3 (sized_cons Tryz.sizeOf3 (sized_cons Tryz.sizeOf3 (sized_cons Tryz.sizeOf4 sized_nil)))) fil_nil) ?_
          refine s_do0 (d_storeAll Tryz.sizeOf200 rfl rfl rfl rfl rfl) ?_
          rintro _ _ rfl
          refine s_val rfl (v_assign rfl) ?_
          refine x_nil ?_
          refine n_then ?_
          refine x_ret ?_
          refine r_then ?_
          refine x_done (.inl rfl) (.cons (r_all Tryz.isAgg200 Tryz.sizeOf200 rfl rfl) (.cons (r_tmp rfl) .nil)) ?_
          refine ⟨_, ⟨?_, rfl⟩, inferInstance⟩
          have he : fndE fr.length pg pa w kind = 2 := by unfold fndE; rw [if_pos ha, if_neg (by omega)]
          simp [pack, fndV, he]
        · intro c3
          refine x_skip ?_
          refine n_then ?_
          refine x_seq ?_
          refine x_region ?_
          refine s_val rfl (v_move rfl) ?_
          refine s_val rfl (v_quo rfl rfl (by decide) ((congrArg (IntKind.wrap .u32) (tdivN pa 64)).trans (w32u (by omega)))) ?_
          refine s_val rfl (v_conv Tryz.underlying53 Tryz.underlying3 rfl (w64 (by omega))) ?_
          refine s_val rfl (v_assign rfl) ?_
          refine x_nil ?_
          refine n_then ?_
          refine x_seq ?_
          refine x_region ?_
          refine s_val rfl (v_move rfl) ?_
          refine s_val rfl (v_nilCheck rfl) ?_
          refine s_val rfl (v_fieldAddr rfl Tryz.underlying119 rfl Tryz.sizeOf116 rfl (by first | exact Nat.zero_add _ | rfl)) ?_
          refine s_val rfl (v_load Tryz.isAgg116 rfl (cell_own rfl)) ?_
          refine s_val rfl (v_move rfl) ?_
          refine s_val rfl (v_move rfl) ?_
          refine s_do rfl (d_call1 Tryz.call200 rfl (rgAllows_spec W0 _ qm pg h ((pa / 64 : Nat) : Int) kind)) ?_
          rintro _ B_ ⟨rfl, hB_⟩
          obtain rfl := hB_.symm
          refine s_val rfl (v_assign rfl) ?_
          refine x_nil ?_
          refine n_then ?_
          refine x_seq ?_
          refine x_seq ?_
          refine x_region ?_
          refine s_val rfl (v_move rfl) ?_
          refine s_val rfl (v_neq rfl rfl) ?_
          refine x_nil ?_
          refine n_then ?_
          refine x_if rfl ?_ ?_
          · intro c7
            refine x_seq ?_
            refine x_region ?_
            refine s_val rfl (v_build Tryz.underlying200 Tryz.zeroValue200 (sized_cons Tryz.sizeOf3 (sized_cons Tryz.sizeOf3 (sized_cons Tryz.sizeOf3 (sized_cons Tryz.sizeOf4 sized_nil)))) fil_nil) ?_
            refine s_val rfl (v_move rfl) ?_
            refine s_do0 (d_storeAll Tryz.sizeOf200 rfl rfl rfl rfl rfl) ?_
            rintro _ _ rfl
            refine s_val rfl (v_assign rfl) ?_
            refine x_nil ?_
            refine n_then ?_
            refine x_ret ?_
            refine r_then ?_
            refine x_done (.inl rfl) (.cons (r_all Tryz.isAgg200 Tryz.sizeOf200 rfl rfl) (.cons (r_tmp rfl) .nil)) ?_
            refine ⟨_, ⟨?_, rfl⟩, inferInstance⟩
            have he : fndE fr.length pg pa w kind = alwE pg ((pa / 64 : Nat) : Int) kind := by unfold fndE; rw [if_pos ha, if_pos (by omega), if_neg c7]
            rw [fndV, if_neg (by rw [he]; exact c7), he]; rfl
          · intro c7
            have hz : alwE pg ((pa / 64 : Nat) : Int) kind = 0 := by simpa using c7
            have hth : thereB pg ((pa / 64 : Nat) : Int) = true := by
              unfold alwE at hz; split at hz
              · assumption
              · omega
            have hk := okPl_iff.1 (gGot_ok h hth)
            refine x_skip ?_
            refine n_then ?_
            refine x_seq ?_
            refine x_region ?_
            refine s_val rfl (v_move rfl) ?_
            refine s_val rfl (v_nilCheck rfl) ?_
            refine s_val rfl (v_fieldAddr rfl Tryz.underlying119 rfl Tryz.sizeOf116 rfl (by first | exact Nat.zero_add _ | rfl)) ?_
            refine s_val rfl (v_load Tryz.isAgg116 rfl (cell_own rfl)) ?_
            refine s_val rfl (v_move rfl) ?_
            refine s_do rfl (d_call1 Tryz.call201 rfl (rgGet_spec W0 _ qm pg h ((pa / 64 : Nat) : Int))) ?_
            rintro _ B_ ⟨rfl, hB_⟩
            obtain rfl := hB_.symm
            refine s_val rfl (v_move rfl) ?_
            refine s_val rfl (v_extract rfl rfl) ?_
            refine s_val rfl (v_extract rfl rfl) ?_
            refine s_do rfl (d_allocA Tryz.zeroValue156) ?_
            rintro _ _ ⟨bp, rfl, rfl⟩
            refine s_do0 (d_storeAll Tryz.sizeOf156 rfl rfl rfl rfl rfl) ?_
            rintro _ _ rfl
            refine s_val rfl (v_assign rfl) ?_
            refine x_nil ?_
            refine n_then ?_
            refine x_seq ?_
            refine x_seq ?_
            refine x_draw [(bp, 0, _), (qv, 0, _)] 8 mixed rfl (sc_own (sc_own sc_end)) (fun hS => ?_)
            refine d_take 0 rfl rfl (by kernel_rfl) (by kernel_rfl) (by kernel_rfl) rfl hS (v_move rfl) ?_
            refine d_take 1 rfl rfl (by kernel_rfl) (by kernel_rfl) (by kernel_rfl) rfl hS (v_nilCheck rfl) ?_
            refine d_take 2 rfl rfl (by kernel_rfl) (by kernel_rfl) (by kernel_rfl) rfl hS (v_fieldAddr rfl Tryz.underlying119 rfl Tryz.sizeOf115 rfl (by first | exact Nat.zero_add _ | rfl)) ?_
            refine d_take 3 rfl rfl (by kernel_rfl) (by kernel_rfl) (by kernel_rfl) rfl hS (v_load Tryz.isAgg115 rfl (by first | exact cell_sc0 (k := 0) rfl rfl | exact cell_sc0 (k := 1) rfl rfl)) ?_
            refine d_take 4 rfl rfl (by kernel_rfl) (by kernel_rfl) (by kernel_rfl) rfl hS (v_fieldAddr rfl Tryz.underlying156 rfl Tryz.sizeOf3 rfl (by first | exact Nat.zero_add _ | rfl)) ?_
            refine d_take 5 rfl rfl (by kernel_rfl) (by kernel_rfl) (by kernel_rfl) rfl hS (v_load Tryz.isAgg3 rfl (by first | exact cell_sc0 (k := 0) rfl rfl | exact cell_sc0 (k := 1) rfl rfl)) ?_
            refine d_one 6 (by kernel_rfl) rfl rfl (d_call1 Tryz.call202 rfl (rfIs_spec W0 _ qs fr _)) rfl ?_; clear hS
            rintro _ B_ ⟨rfl, hB_⟩
            obtain rfl := hB_.symm
            refine ⟨(sc_own (sc_own sc_end)), fun hS => ?_⟩
            refine d_take 7 rfl rfl (by kernel_rfl) (by kernel_rfl) (by kernel_rfl) rfl hS (v_not rfl) ?_
            refine d_done (by kernel_rfl) ?_; clear hS
            refine n_then ?_
            refine x_if rfl ?_ ?_
            · intro c10
              refine x_seq ?_
              refine x_region ?_
              refine s_val rfl (v_build Tryz.underlying200 Tryz.zeroValue200 (sized_cons Tryz.sizeOf3 (sized_cons Tryz.sizeOf3 (sized_cons Tryz.sizeOf3 (sized_cons Tryz.sizeOf4 sized_nil)))) fil_nil) ?_
              refine s_do0 (d_storeAll Tryz.sizeOf200 rfl rfl rfl rfl rfl) ?_
              rintro _ _ rfl
              refine s_val rfl (v_assign rfl) ?_
              refine x_nil ?_
              refine n_then ?_
              refine x_ret ?_
              refine r_then ?_
              refine x_done (.inl rfl) (.cons (r_all Tryz.isAgg200 Tryz.sizeOf200 rfl rfl) (.cons (r_tmp rfl) .nil)) ?_
              refine ⟨_, ⟨?_, rfl⟩, inferInstance⟩
              have hn : ¬ (gGot pg ((pa / 64 : Nat) : Int)).1 < fr.length := by
                rw [isF_iff] at c10; omega
              have he : fndE fr.length pg pa w kind = 7 := by unfold fndE; rw [if_pos ha, if_pos (by omega), if_pos hz, if_neg hn]
              simp [pack, fndV, he]
            · intro c10
              refine x_skip ?_
              refine n_then ?_
              refine x_seq ?_
              refine x_region ?_
              refine s_val rfl (v_move rfl) ?_
              refine s_val rfl (v_fieldAddr rfl Tryz.underlying156 rfl Tryz.sizeOf3 rfl (by first | exact Nat.zero_add _ | rfl)) ?_
              refine s_val rfl (v_load Tryz.isAgg3 rfl (cell_own rfl)) ?_
              refine s_val rfl (v_move rfl) ?_
              refine s_val rfl (v_rem rfl rfl (by decide) (tmodN pa 64)) ?_
              refine s_val rfl (v_conv Tryz.underlying53 Tryz.underlying3 rfl (w64 (by omega))) ?_
              refine s_val rfl (v_build Tryz.underlying200 Tryz.zeroValue200 (sized_cons Tryz.sizeOf3 (sized_cons Tryz.sizeOf3 (sized_cons Tryz.sizeOf3 (sized_cons Tryz.sizeOf4 sized_nil)))) (fil_scal rfl Tryz.sizeOf3 rfl rfl (Nat.le_of_ble_eq_true rfl) SetL.eq (fil_scal rfl Tryz.sizeOf3 rfl rfl (Nat.le_of_ble_eq_true rfl) SetL.eq (fil_scal rfl Tryz.sizeOf3 rfl rfl (Nat.le_of_ble_eq_true rfl) SetL.eq fil_nil)))) ?_
              refine s_do0 (d_storeAll Tryz.sizeOf200 rfl rfl rfl rfl rfl) ?_
              rintro _ _ rfl
              refine s_val rfl (v_assign rfl) ?_
              refine x_nil ?_
              refine n_then ?_
              refine x_ret ?_
              refine x_done (.inl rfl) (.cons (r_all Tryz.isAgg200 Tryz.sizeOf200 rfl rfl) (.cons (r_tmp rfl) .nil)) ?_
              refine ⟨_, ⟨?_, rfl⟩, inferInstance⟩
              have hn : (gGot pg ((pa / 64 : Nat) : Int)).1 < fr.length := by
                rw [isF_iff] at c10; omega
              have he : fndE fr.length pg pa w kind = 0 := by unfold fndE; rw [if_pos ha, if_pos (by omega), if_pos hz, if_pos hn]
              simp [pack, fndV, he]
  · intro g1_3
    refine s_no rfl rfl rfl rfl ?_
    refine s_val rfl (v_pick_f rfl rfl) ?_
    refine s_val rfl (v_move rfl) ?_
    refine s_no rfl rfl rfl rfl ?_
    refine s_no rfl rfl rfl rfl ?_
    refine s_val rfl (v_pick_f rfl rfl) ?_
    refine s_val rfl (v_move rfl) ?_
    refine s_yes rfl rfl ?_
    refine s_val rfl (v_move rfl) ?_
    refine s_yes rfl rfl ?_
    refine s_val rfl (v_move rfl) ?_
    refine s_yes rfl rfl ?_
    refine s_val rfl (v_conv Tryz.underlying3 Tryz.underlying53 rfl (w32u (by omega))) ?_
    refine s_yes rfl rfl ?_
    refine s_val rfl (v_rem rfl rfl (by omega) (Int.tmod_eq_emod_of_nonneg (by omega))) ?_
    refine s_yes rfl rfl ?_
    refine s_val rfl (v_neq rfl rfl) ?_
    refine s_val rfl (v_pick_f rfl rfl) ?_
    refine x_nil ?_
    refine n_then ?_
    refine x_if rfl ?_ ?_
    · intro c1
      refine x_seq ?_
      refine x_region ?_
      refine s_val rfl (v_build Tryz.underlying200 Tryz.zeroValue200 (sized_cons Tryz.sizeOf3 (sized_cons Tryz.sizeOf3 (sized_cons Tryz.sizeOf3 (sized_cons Tryz.sizeOf4 sized_nil)))) fil_nil) ?_
      refine s_do0 (d_storeAll Tryz.sizeOf200 rfl rfl rfl rfl rfl) ?_
      rintro _ _ rfl
      refine s_val rfl (v_assign rfl) ?_
      refine x_nil ?_
      refine n_then ?_
      refine x_ret ?_
      refine r_then ?_
      refine x_done (.inl rfl) (.cons (r_all Tryz.isAgg200 Tryz.sizeOf200 rfl rfl) (.cons (r_tmp rfl) .nil)) ?_
      refine ⟨_, ⟨?_, rfl⟩, inferInstance⟩
      have ha : alB pa w = false := by
        rw [← Bool.not_eq_true]; simp only [alB, decide_eq_true_eq]
        rintro ⟨q1, q2⟩
        first
          | omega
          | (rcases q1 with rfl | rfl | rfl <;> omega)
      have he : fndE fr.length pg pa w kind = 1 := by simp [fndE, ha]
      simp [pack, fndV, he]
    · intro c1
      have ha : alB pa w = true := by
        simp only [alB, decide_eq_true_eq]
        refine ⟨by omega, ?_⟩
        have : w = 1 ∨ w = 2 ∨ w = 4 := by omega
        rcases this with rfl | rfl | rfl <;> omega
      refine x_skip ?_
      refine n_then ?_
      refine x_seq ?_
      refine x_seq ?_
      refine x_region ?_
      refine s_val rfl (v_move rfl) ?_
      refine s_val rfl (v_geq rfl rfl) ?_
      refine x_nil ?_
      refine n_then ?_
      refine x_if rfl ?_ ?_
      · intro c3
        refine x_seq ?_
        refine x_region ?_
        refine s_val rfl (v_build Tryz.underlying200 Tryz.zeroValue200 (sized_cons Tryz.sizeOf3 (sized_cons Tryz.sizeOf3 (sized_cons Tryz.sizeOf3 (sized_cons Tryz.sizeOf4 sized_nil)))) fil_nil) ?_
        refine s_do0 (d_storeAll Tryz.sizeOf200 rfl rfl rfl rfl rfl) ?_
        rintro _ _ rfl
        refine s_val rfl (v_assign rfl) ?_
        refine x_nil ?_
        refine n_then ?_
        refine x_ret ?_
        refine r_then ?_
        refine x_done (.inl rfl) (.cons (r_all Tryz.isAgg200 Tryz.sizeOf200 rfl rfl) (.cons (r_tmp rfl) .nil)) ?_
        refine ⟨_, ⟨?_, rfl⟩, inferInstance⟩
        have he : fndE fr.length pg pa w kind = 2 := by unfold fndE; rw [if_pos ha, if_neg (by omega)]
        simp [pack, fndV, he]
      · intro c3
        refine x_skip ?_
        refine n_then ?_
        refine x_seq ?_
        refine x_region ?_
        refine s_val rfl (v_move rfl) ?_
        refine s_val rfl (v_quo rfl rfl (by decide) ((congrArg (IntKind.wrap .u32) (tdivN pa 64)).trans (w32u (by omega)))) ?_
        refine s_val rfl (v_conv Tryz.underlying53 Tryz.underlying3 rfl (w64 (by omega))) ?_
        refine s_val rfl (v_assign rfl) ?_
        refine x_nil ?_
        refine n_then ?_
        refine x_seq ?_
        refine x_region ?_
        refine s_val rfl (v_move rfl) ?_
        refine s_val rfl (v_nilCheck rfl) ?_
        refine s_val rfl (v_fieldAddr rfl Tryz.underlying119 rfl Tryz.sizeOf116 rfl (by first | exact Nat.zero_add _ | rfl)) ?_
        refine s_val rfl (v_load Tryz.isAgg116 rfl (cell_own rfl)) ?_
        refine s_val rfl (v_move rfl) ?_
        refine s_val rfl (v_move rfl) ?_
        refine s_do rfl (d_call1 Tryz.call200 rfl (rgAllows_spec W0 _ qm pg h ((pa / 64 : Nat) : Int) kind)) ?_
        rintro _ B_ ⟨rfl, hB_⟩
        obtain rfl := hB_.symm
        refine s_val rfl (v_assign rfl) ?_
        refine x_nil ?_
        refine n_then ?_
        refine x_seq ?_
        refine x_seq ?_
        refine x_region ?_
        refine s_val rfl (v_move rfl) ?_
        refine s_val rfl (v_neq rfl rfl) ?_
        refine x_nil ?_
        refine n_then ?_
        refine x_if rfl ?_ ?_
        · intro c7
          refine x_seq ?_
          refine x_region ?_
          refine s_val rfl (v_build Tryz.underlying200 Tryz.zeroValue200 (sized_cons Tryz.sizeOf3 (sized_cons Tryz.sizeOf3 (sized_cons Tryz.sizeOf3 (sized_cons Tryz.sizeOf4 sized_nil)))) fil_nil) ?_
          refine s_val rfl (v_move rfl) ?_
          refine s_do0 (d_storeAll Tryz.sizeOf200 rfl rfl rfl rfl rfl) ?_
          rintro _ _ rfl
          refine s_val rfl (v_assign rfl) ?_
          refine x_nil ?_
          refine n_then ?_
          refine x_ret ?_
          refine r_then ?_
          refine x_done (.inl rfl) (.cons (r_all Tryz.isAgg200 Tryz.sizeOf200 rfl rfl) (.cons (r_tmp rfl) .nil)) ?_
          refine ⟨_, ⟨?_, rfl⟩, inferInstance⟩
          have he : fndE fr.length pg pa w kind = alwE pg ((pa / 64 : Nat) : Int) kind := by unfold fndE; rw [if_pos ha, if_pos (by omega), if_neg c7]
          rw [fndV, if_neg (by rw [he]; exact c7), he]; rfl
        · intro c7
          have hz : alwE pg ((pa / 64 : Nat) : Int) kind = 0 := by simpa using c7
          have hth : thereB pg ((pa / 64 : Nat) : Int) = true := by
            unfold alwE at hz; split at hz
            · assumption
            · omega
          have hk := okPl_iff.1 (gGot_ok h hth)
          refine x_skip ?_
          refine n_then ?_
          refine x_seq ?_
          refine x_region ?_
          refine s_val rfl (v_move rfl) ?_
          refine s_val rfl (v_nilCheck rfl) ?_
          refine s_val rfl (v_fieldAddr rfl Tryz.underlying119 rfl Tryz.sizeOf116 rfl (by first | exact Nat.zero_add _ | rfl)) ?_
          refine s_val rfl (v_load Tryz.isAgg116 rfl (cell_own rfl)) ?_
          refine s_val rfl (v_move rfl) ?_
          refine s_do rfl (d_call1 Tryz.call201 rfl (rgGet_spec W0 _ qm pg h ((pa / 64 : Nat) : Int))) ?_
          rintro _ B_ ⟨rfl, hB_⟩
          obtain rfl := hB_.symm
          refine s_val rfl (v_move rfl) ?_
          refine s_val rfl (v_extract rfl rfl) ?_
          refine s_val rfl (v_extract rfl rfl) ?_
          refine s_do rfl (d_allocA Tryz.zeroValue156) ?_
          rintro _ _ ⟨bp, rfl, rfl⟩
          refine s_do0 (d_storeAll Tryz.sizeOf156 rfl rfl rfl rfl rfl) ?_
          rintro _ _ rfl
          refine s_val rfl (v_assign rfl) ?_
          refine x_nil ?_
          refine n_then ?_
          refine x_seq ?_
          refine x_seq ?_
          refine x_draw [(bp, 0, _), (qv, 0, _)] 8 mixed rfl (sc_own (sc_own sc_end)) (fun hS => ?_)
          refine d_take 0 rfl rfl (by kernel_rfl) (by kernel_rfl) (by kernel_rfl) rfl hS (v_move rfl) ?_
          refine d_take 1 rfl rfl (by kernel_rfl) (by kernel_rfl) (by kernel_rfl) rfl hS (v_nilCheck rfl) ?_
          refine d_take 2 rfl rfl (by kernel_rfl) (by kernel_rfl) (by kernel_rfl) rfl hS (v_fieldAddr rfl Tryz.underlying119 rfl Tryz.sizeOf115 rfl (by first | exact Nat.zero_add _ | rfl)) ?_
          refine d_take 3 rfl rfl (by kernel_rfl) (by kernel_rfl) (by kernel_rfl) rfl hS (v_load Tryz.isAgg115 rfl (by first | exact cell_sc0 (k := 0) rfl rfl | exact cell_sc0 (k := 1) rfl rfl)) ?_
          refine d_take 4 rfl rfl (by kernel_rfl) (by kernel_rfl) (by kernel_rfl) rfl hS (v_fieldAddr rfl Tryz.underlying156 rfl Tryz.sizeOf3 rfl (by first | exact Nat.zero_add _ | rfl)) ?_
          refine d_take 5 rfl rfl (by kernel_rfl) (by kernel_rfl) (by kernel_rfl) rfl hS (v_load Tryz.isAgg3 rfl (by first | exact cell_sc0 (k := 0) rfl rfl | exact cell_sc0 (k := 1) rfl rfl)) ?_
          refine d_one 6 (by kernel_rfl) rfl rfl (d_call1 Tryz.call202 rfl (rfIs_spec W0 _ qs fr _)) rfl ?_; clear hS
          rintro _ B_ ⟨rfl, hB_⟩
          obtain rfl := hB_.symm
          refine ⟨(sc_own (sc_own sc_end)), fun hS => ?_⟩
          refine d_take 7 rfl rfl (by kernel_rfl) (by kernel_rfl) (by kernel_rfl) rfl hS (v_not rfl) ?_
          refine d_done (by kernel_rfl) ?_; clear hS
          refine n_then ?_
          refine x_if rfl ?_ ?_
          · intro c10
            refine x_seq ?_
            refine x_region ?_
            refine s_val rfl (v_build Tryz.underlying200 Tryz.zeroValue200 (sized_cons Tryz.sizeOf3 (sized_cons Tryz.sizeOf3 (sized_cons Tryz.sizeOf3 (sized_cons Tryz.sizeOf4 sized_nil)))) fil_nil) ?_
            refine s_do0 (d_storeAll Tryz.sizeOf200 rfl rfl rfl rfl rfl) ?_
            rintro _ _ rfl
            refine s_val rfl (v_assign rfl) ?_
            refine x_nil ?_
            refine n_then ?_
            refine x_ret ?_
            refine r_then ?_
            refine x_done (.inl rfl) (.cons (r_all Tryz.isAgg200 Tryz.sizeOf200 rfl rfl) (.cons (r_tmp rfl) .nil)) ?_
            refine ⟨_, ⟨?_, rfl⟩, inferInstance⟩
            have hn : ¬ (gGot pg ((pa / 64 : Nat) : Int)).1 < fr.length := by
              rw [isF_iff] at c10; omega
            have he : fndE fr.length pg pa w kind = 7 := by unfold fndE; rw [if_pos ha, if_pos (by omega), if_pos hz, if_neg hn]
            simp [pack, fndV, he]
          · intro c10
            refine x_skip ?_
            refine n_then ?_
            refine x_seq ?_
            refine x_region ?_
            refine s_val rfl (v_move rfl) ?_
            refine s_val rfl (v_fieldAddr rfl Tryz.underlying156 rfl Tryz.sizeOf3 rfl (by first | exact Nat.zero_add _ | rfl)) ?_
            refine s_val rfl (v_load Tryz.isAgg3 rfl (cell_own rfl)) ?_
            refine s_val rfl (v_move rfl) ?_
            refine s_val rfl (v_rem rfl rfl (by decide) (tmodN pa 64)) ?_
            refine s_val rfl (v_conv Tryz.underlying53 Tryz.underlying3 rfl (w64 (by omega))) ?_
            refine s_val rfl (v_build Tryz.underlying200 Tryz.zeroValue200 (sized_cons Tryz.sizeOf3 (sized_cons Tryz.sizeOf3 (sized_cons Tryz.sizeOf3 (sized_cons Tryz.sizeOf4 sized_nil)))) (fil_scal rfl Tryz.sizeOf3 rfl rfl (Nat.le_of_ble_eq_true rfl) SetL.eq (fil_scal rfl Tryz.sizeOf3 rfl rfl (Nat.le_of_ble_eq_true rfl) SetL.eq (fil_scal rfl Tryz.sizeOf3 rfl rfl (Nat.le_of_ble_eq_true rfl) SetL.eq fil_nil)))) ?_
            refine s_do0 (d_storeAll Tryz.sizeOf200 rfl rfl rfl rfl rfl) ?_
            rintro _ _ rfl
            refine s_val rfl (v_assign rfl) ?_
            refine x_nil ?_
            refine n_then ?_
            refine x_ret ?_
            refine x_done (.inl rfl) (.cons (r_all Tryz.isAgg200 Tryz.sizeOf200 rfl rfl) (.cons (r_tmp rfl) .nil)) ?_
            refine ⟨_, ⟨?_, rfl⟩, inferInstance⟩
            have hn : (gGot pg ((pa / 64 : Nat) : Int)).1 < fr.length := by
              rw [isF_iff] at c10; omega
            have he : fndE fr.length pg pa w kind = 0 := by unfold fndE; rw [if_pos ha, if_pos (by omega), if_pos hz, if_pos hn]
            simp [pack, fndV, he]
end Go.Proofs.YtechkfopkpkigaaGreat
