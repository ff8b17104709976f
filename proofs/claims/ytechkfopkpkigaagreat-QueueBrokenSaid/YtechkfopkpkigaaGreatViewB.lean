/-
  Layer 16 (view): Load, Save, New, Map, Store.
-/
import Derived.Test.YtechkfopkpkigaaGreatView
namespace Go.Proofs.YtechkfopkpkigaaGreat
open Go.RowKit
set_option linter.unusedSimpArgs false
set_option linter.unusedVariables false
set_option maxRecDepth 20000

theorem fnd_ok {n : Nat} {pg : List Pl} {pa : Nat} {w kind : Int} (h : fndE n pg pa w kind = 0) : pa < 768 ∧ (gGot pg ((pa / 64 : Nat) : Int)).1 < n ∧ fndV n pg pa w kind = [.int .i64 (pa / 64 : Nat), .int .i64 (gGot pg ((pa / 64 : Nat) : Int)).1, .int .i64 (pa % 64 : Nat), .bool false] := by
  refine ⟨?_, ?_, by rw [fndV, if_pos h]⟩
  · unfold fndE at h; split at h
    · split at h
      · assumption
      · omega
    · omega
  · unfold fndE at h; split at h
    · split at h
      · split at h
        · split at h
          · assumption
          · omega
        · contradiction
      · omega
    · omega
def vldN (fr : List Frm) (pg : List Pl) (pa : Nat) (w : Int) : Nat := if fndE fr.length pg pa w 1 = 0 then ldN fr (gGot pg ((pa / 64 : Nat) : Int)).1 ((pa % 64 : Nat) : Int) w else 0
theorem viLoad_spec (W0 : World) (R : List HP) (pv ps pm d : Nat) (fr : List Frm) (pg : List Pl) (h : Pgs pg) (hF : Frs fr) (pa : Nat) (hpa : pa < 4294967296) (w : Int) :
    Spec Tryz.prog W0 45 [.pointer (some ⟨pv, 0, none⟩), .int .u32 pa, .int .i64 w] (pt pv (viO ps pm d) :: stoH ps fr :: pt pm (gmO pg) :: R)
      (fun v B => v = .tuple #[.int .u32 (vldN fr pg pa w : Nat), .int .i64 (fndE fr.length pg pa w 1)] ∧ B = pt pv (viO ps pm d) :: stoH ps fr :: pt pm (gmO pg) :: R) := by
  by_cases hz : fndE fr.length pg pa w 1 = 0
  · obtain ⟨h1, h2, hv⟩ := fnd_ok hz
    refine spec_body Tryz.func45 Tryz.ntmps45 rfl rfl ?_
    refine x_seq ?_
    refine x_region ?_
    refine s_val rfl (v_assign rfl) ?_
    refine s_val rfl (v_assign rfl) ?_
    refine x_nil ?_
    refine n_then ?_
    refine x_seq ?_
    refine x_region ?_
    refine s_val rfl (v_move rfl) ?_
    refine s_val rfl (v_move rfl) ?_
    refine s_val rfl (v_move rfl) ?_
    refine s_do rfl (d_call3 Tryz.call127 rfl (viFind_spec W0 _ pv ps pm d fr pg h pa hpa w 1)) ?_
    rintro _ B_ ⟨rfl, hB_⟩
    obtain rfl := hB_.symm
    rw [hv, hz]
    refine s_val rfl (v_move rfl) ?_
    refine s_val rfl (v_extract rfl rfl) ?_
    refine s_val rfl (v_extract rfl rfl) ?_
    refine s_do rfl (d_allocA Tryz.zeroValue200) ?_
    rintro _ _ ⟨b1, rfl, rfl⟩
    refine s_do0 (d_storeAll Tryz.sizeOf200 rfl rfl rfl rfl rfl) ?_
    rintro _ _ rfl
    refine s_val rfl (v_assign rfl) ?_
    refine x_nil ?_
    refine n_then ?_
    refine x_seq ?_
    refine x_seq ?_
    refine x_region ?_
    refine s_val rfl (v_move rfl) ?_
    refine s_val rfl (v_neq rfl rfl) ?_
    refine x_nil ?_
    refine n_then ?_
    refine x_if rfl ?_ ?_
    · intro c2
      exact absurd rfl c2
    · intro c2
      refine x_skip ?_
      refine n_then ?_
      refine x_seq ?_
      refine x_draw [(pv, 0, _), (b1, 0, _)] 15 mixed rfl (sc_own (sc_own sc_end)) (fun hS => ?_)
      refine d_take 0 rfl rfl (by kernel_rfl) (by kernel_rfl) (by kernel_rfl) rfl hS (v_move rfl) ?_
      refine d_take 1 rfl rfl (by kernel_rfl) (by kernel_rfl) (by kernel_rfl) rfl hS (v_nilCheck rfl) ?_
      refine d_take 2 rfl rfl (by kernel_rfl) (by kernel_rfl) (by kernel_rfl) rfl hS (v_fieldAddr rfl Tryz.underlying196 rfl Tryz.sizeOf110 rfl (by first | exact Nat.zero_add _ | rfl)) ?_
      refine d_take 3 rfl rfl (by kernel_rfl) (by kernel_rfl) (by kernel_rfl) rfl hS (v_load Tryz.isAgg110 rfl (by first | exact cell_sc0 (k := 0) rfl rfl | exact cell_sc0 (k := 1) rfl rfl)) ?_
      refine d_take 4 rfl rfl (by kernel_rfl) (by kernel_rfl) (by kernel_rfl) rfl hS (v_fieldAddr rfl Tryz.underlying200 rfl Tryz.sizeOf3 rfl (by first | exact Nat.zero_add _ | rfl)) ?_
      refine d_take 5 rfl rfl (by kernel_rfl) (by kernel_rfl) (by kernel_rfl) rfl hS (v_load Tryz.isAgg3 rfl (by first | exact cell_sc0 (k := 0) rfl rfl | exact cell_sc0 (k := 1) rfl rfl)) ?_
      refine d_take 6 rfl rfl (by kernel_rfl) (by kernel_rfl) (by kernel_rfl) rfl hS (v_fieldAddr rfl Tryz.underlying200 rfl Tryz.sizeOf3 rfl (by first | exact Nat.zero_add _ | rfl)) ?_
      refine d_take 7 rfl rfl (by kernel_rfl) (by kernel_rfl) (by kernel_rfl) rfl hS (v_load Tryz.isAgg3 rfl (by first | exact cell_sc0 (k := 0) rfl rfl | exact cell_sc0 (k := 1) rfl rfl)) ?_
      refine d_take 8 rfl rfl (by kernel_rfl) (by kernel_rfl) (by kernel_rfl) rfl hS (v_move rfl) ?_
      refine d_one 9 (by kernel_rfl) rfl rfl (d_call1 Tryz.call126 rfl (frLoad_spec W0 _ ps fr _ _ w hF)) rfl ?_; clear hS
      rintro _ B_ ⟨rfl, hB_⟩
      obtain rfl := hB_.symm
      refine ⟨(sc_own (sc_own sc_end)), fun hS => ?_⟩
      refine d_take 10 rfl rfl (by kernel_rfl) (by kernel_rfl) (by kernel_rfl) rfl hS (v_move rfl) ?_
      refine d_take 11 rfl rfl (by kernel_rfl) (by kernel_rfl) (by kernel_rfl) rfl hS (v_extract rfl rfl) ?_
      refine d_take 12 rfl rfl (by kernel_rfl) (by kernel_rfl) (by kernel_rfl) rfl hS (v_extract rfl rfl) ?_
      refine d_take 13 rfl rfl (by kernel_rfl) (by kernel_rfl) (by kernel_rfl) rfl hS (v_assign rfl) ?_
      refine d_take 14 rfl rfl (by kernel_rfl) (by kernel_rfl) (by kernel_rfl) rfl hS (v_assign rfl) ?_
      refine d_done (by kernel_rfl) ?_; clear hS
      refine n_then ?_
      refine x_seq ?_
      refine x_region ?_
      refine s_val rfl (v_move rfl) ?_
      refine s_val rfl (v_assign rfl) ?_
      refine s_val rfl (v_assign rfl) ?_
      refine x_nil ?_
      refine n_then ?_
      refine x_ret ?_
      refine x_done (.inl rfl) (.cons (r_tmp rfl) (.cons (r_tmp rfl) .nil)) ?_
      refine ⟨_, ⟨?_, rfl⟩, inferInstance⟩
      rw [vldN, if_pos hz]; rfl
  · skip
    refine spec_body Tryz.func45 Tryz.ntmps45 rfl rfl ?_
    refine x_seq ?_
    refine x_region ?_
    refine s_val rfl (v_assign rfl) ?_
    refine s_val rfl (v_assign rfl) ?_
    refine x_nil ?_
    refine n_then ?_
    refine x_seq ?_
    refine x_region ?_
    refine s_val rfl (v_move rfl) ?_
    refine s_val rfl (v_move rfl) ?_
    refine s_val rfl (v_move rfl) ?_
    refine s_do rfl (d_call3 Tryz.call127 rfl (viFind_spec W0 _ pv ps pm d fr pg h pa hpa w 1)) ?_
    rintro _ B_ ⟨rfl, hB_⟩
    obtain rfl := hB_.symm
    rw [fndV, if_neg hz]
    refine s_val rfl (v_move rfl) ?_
    refine s_val rfl (v_extract rfl rfl) ?_
    refine s_val rfl (v_extract rfl rfl) ?_
    refine s_do rfl (d_allocA Tryz.zeroValue200) ?_
    rintro _ _ ⟨b1, rfl, rfl⟩
    refine s_do0 (d_storeAll Tryz.sizeOf200 rfl rfl rfl rfl rfl) ?_
    rintro _ _ rfl
    refine s_val rfl (v_assign rfl) ?_
    refine x_nil ?_
    refine n_then ?_
    refine x_seq ?_
    refine x_seq ?_
    refine x_region ?_
    refine s_val rfl (v_move rfl) ?_
    refine s_val rfl (v_neq rfl rfl) ?_
    refine x_nil ?_
    refine n_then ?_
    refine x_if rfl ?_ ?_
    · intro c2
      refine x_seq ?_
      refine x_region ?_
      refine s_val rfl (v_move rfl) ?_
      refine s_val rfl (v_assign rfl) ?_
      refine s_val rfl (v_assign rfl) ?_
      refine x_nil ?_
      refine n_then ?_
      refine x_ret ?_
      refine r_then ?_
      refine x_done (.inl rfl) (.cons (r_tmp rfl) (.cons (r_tmp rfl) .nil)) ?_
      refine ⟨_, ⟨?_, rfl⟩, inferInstance⟩
      rw [vldN, if_neg hz]; rfl
    · intro c2
      exact absurd hz c2

def vsvF (fr : List Frm) (pg : List Pl) (pa : Nat) (w : Int) (x : Nat) : List Frm := if fndE fr.length pg pa w 2 = 0 then svF fr (gGot pg ((pa / 64 : Nat) : Int)).1 ((pa % 64 : Nat) : Int) w x else fr
def vsvD (fr : List Frm) (pg : List Pl) (pa : Nat) (w : Int) (d : Nat) : Nat := if fndE fr.length pg pa w 2 = 0 then d ||| 2 ^ (pa / 64) else d
theorem shl_page {n : Nat} (h : n < 12) : bShl .u32 1 (n : Int) = ((2 ^ n : Nat) : Int) := by
  have : ∀ n : Nat, n < 12 → bShl .u32 1 (n : Int) = ((2 ^ n : Nat) : Int) := by decide
  exact this n h
theorem page_lt {n : Nat} (h : n < 12) : 2 ^ n < 4096 := by
  have : ∀ n : Nat, n < 12 → 2 ^ n < 4096 := by decide
  exact this n h
theorem viSave_spec (W0 : World) (R : List HP) (pv ps pm d : Nat) (fr : List Frm) (pg : List Pl) (h : Pgs pg) (hF : Frs fr) (hd : d < 4096) (pa : Nat) (hpa : pa < 4294967296) (w : Int) (x : Nat) (hx : x < 4294967296) :
    Spec Tryz.prog W0 48 [.pointer (some ⟨pv, 0, none⟩), .int .u32 pa, .int .i64 w, .int .u32 x] (pt pv (viO ps pm d) :: stoH ps fr :: pt pm (gmO pg) :: R)
      (fun v B => v = .int .i64 (fndE fr.length pg pa w 2) ∧ B = pt pv (viO ps pm (vsvD fr pg pa w d)) :: stoH ps (vsvF fr pg pa w x) :: pt pm (gmO pg) :: R) := by
  by_cases hz : fndE fr.length pg pa w 2 = 0
  · obtain ⟨h1, h2, hv⟩ := fnd_ok hz
    have hp := page_lt (n := pa / 64) (by omega)
    rw [vsvD, if_pos hz, vsvF, if_pos hz]
    refine spec_body Tryz.func48 Tryz.ntmps48 rfl rfl ?_
    refine x_seq ?_
    refine x_region ?_
    refine s_val rfl (v_assign rfl) ?_
    refine x_nil ?_
    refine n_then ?_
    refine x_seq ?_
    refine x_region ?_
    refine s_val rfl (v_move rfl) ?_
    refine s_val rfl (v_move rfl) ?_
    refine s_val rfl (v_move rfl) ?_
    refine s_do rfl (d_call3 Tryz.call127 rfl (viFind_spec W0 _ pv ps pm d fr pg h pa hpa w 2)) ?_
    rintro _ B_ ⟨rfl, hB_⟩
    obtain rfl := hB_.symm
    rw [hv, hz]
    refine s_val rfl (v_move rfl) ?_
    refine s_val rfl (v_extract rfl rfl) ?_
    refine s_val rfl (v_extract rfl rfl) ?_
    refine s_do rfl (d_allocA Tryz.zeroValue200) ?_
    rintro _ _ ⟨b1, rfl, rfl⟩
    refine s_do0 (d_storeAll Tryz.sizeOf200 rfl rfl rfl rfl rfl) ?_
    rintro _ _ rfl
    refine s_val rfl (v_assign rfl) ?_
    refine x_nil ?_
    refine n_then ?_
    refine x_seq ?_
    refine x_seq ?_
    refine x_region ?_
    refine s_val rfl (v_move rfl) ?_
    refine s_val rfl (v_neq rfl rfl) ?_
    refine x_nil ?_
    refine n_then ?_
    refine x_if rfl ?_ ?_
    · intro c2
      exact absurd rfl c2
    · intro c2
      refine x_skip ?_
      refine n_then ?_
      refine x_seq ?_
      refine x_draw [(pv, 0, _), (b1, 0, _)] 11 mixed rfl (sc_own (sc_own sc_end)) (fun hS => ?_)
      refine d_take 0 rfl rfl (by kernel_rfl) (by kernel_rfl) (by kernel_rfl) rfl hS (v_move rfl) ?_
      refine d_take 1 rfl rfl (by kernel_rfl) (by kernel_rfl) (by kernel_rfl) rfl hS (v_nilCheck rfl) ?_
      refine d_take 2 rfl rfl (by kernel_rfl) (by kernel_rfl) (by kernel_rfl) rfl hS (v_fieldAddr rfl Tryz.underlying196 rfl Tryz.sizeOf110 rfl (by first | exact Nat.zero_add _ | rfl)) ?_
      refine d_take 3 rfl rfl (by kernel_rfl) (by kernel_rfl) (by kernel_rfl) rfl hS (v_load Tryz.isAgg110 rfl (by first | exact cell_sc0 (k := 0) rfl rfl | exact cell_sc0 (k := 1) rfl rfl)) ?_
      refine d_take 4 rfl rfl (by kernel_rfl) (by kernel_rfl) (by kernel_rfl) rfl hS (v_fieldAddr rfl Tryz.underlying200 rfl Tryz.sizeOf3 rfl (by first | exact Nat.zero_add _ | rfl)) ?_
      refine d_take 5 rfl rfl (by kernel_rfl) (by kernel_rfl) (by kernel_rfl) rfl hS (v_load Tryz.isAgg3 rfl (by first | exact cell_sc0 (k := 0) rfl rfl | exact cell_sc0 (k := 1) rfl rfl)) ?_
      refine d_take 6 rfl rfl (by kernel_rfl) (by kernel_rfl) (by kernel_rfl) rfl hS (v_fieldAddr rfl Tryz.underlying200 rfl Tryz.sizeOf3 rfl (by first | exact Nat.zero_add _ | rfl)) ?_
      refine d_take 7 rfl rfl (by kernel_rfl) (by kernel_rfl) (by kernel_rfl) rfl hS (v_load Tryz.isAgg3 rfl (by first | exact cell_sc0 (k := 0) rfl rfl | exact cell_sc0 (k := 1) rfl rfl)) ?_
      refine d_take 8 rfl rfl (by kernel_rfl) (by kernel_rfl) (by kernel_rfl) rfl hS (v_move rfl) ?_
      refine d_take 9 rfl rfl (by kernel_rfl) (by kernel_rfl) (by kernel_rfl) rfl hS (v_move rfl) ?_
      refine d_one 10 (by kernel_rfl) rfl rfl (d_call1 Tryz.call131 rfl (frSave_spec W0 _ ps fr _ _ w x hx hF)) rfl ?_; clear hS
      rintro _ B_ ⟨rfl, hB_⟩
      obtain rfl := hB_.symm
      refine ⟨(sc_own (sc_own sc_end)), fun hS => ?_⟩
      refine d_done (by kernel_rfl) ?_; clear hS
      refine n_then ?_
      refine x_seq ?_
      refine x_draw [(b1, 0, _)] 11 mixed rfl (sc_own sc_end) (fun hS => ?_)
      refine d_take 0 rfl rfl (by kernel_rfl) (by kernel_rfl) (by kernel_rfl) rfl hS (v_move rfl) ?_
      refine d_take 1 rfl rfl (by kernel_rfl) (by kernel_rfl) (by kernel_rfl) rfl hS (v_nilCheck rfl) ?_
      refine d_take 2 rfl rfl (by kernel_rfl) (by kernel_rfl) (by kernel_rfl) rfl hS (v_fieldAddr rfl Tryz.underlying196 rfl Tryz.sizeOf53 rfl (by first | exact Nat.zero_add _ | rfl)) ?_
      refine d_take 4 rfl rfl (by kernel_rfl) (by kernel_rfl) (by kernel_rfl) rfl hS (v_fieldAddr rfl Tryz.underlying200 rfl Tryz.sizeOf3 rfl (by first | exact Nat.zero_add _ | rfl)) ?_
      refine d_take 5 rfl rfl (by kernel_rfl) (by kernel_rfl) (by kernel_rfl) rfl hS (v_load Tryz.isAgg3 rfl (cell_sc0 (k := 0) rfl rfl)) ?_
      refine d_take 6 rfl rfl (by kernel_rfl) (by kernel_rfl) (by kernel_rfl) rfl hS (v_shl rfl rfl (by omega) (shl_page (by omega))) ?_
      refine d_one 3 (by kernel_rfl) rfl rfl (d_val (v_load Tryz.isAgg53 rfl (cell_own rfl))) rfl ?_; clear hS
      rintro _ _ ⟨rfl, rfl⟩
      refine ⟨(sc_own sc_end), fun hS => ?_⟩
      refine d_take 7 rfl rfl (by kernel_rfl) (by kernel_rfl) (by kernel_rfl) rfl hS (v_or rfl rfl (bOr_u32 (by omega) (by omega))) ?_
      refine d_take 8 rfl rfl (by kernel_rfl) (by kernel_rfl) (by kernel_rfl) rfl hS (v_nilCheck rfl) ?_
      refine d_take 9 rfl rfl (by kernel_rfl) (by kernel_rfl) (by kernel_rfl) rfl hS (v_fieldAddr rfl Tryz.underlying196 rfl Tryz.sizeOf53 rfl (by first | exact Nat.zero_add _ | rfl)) ?_
      refine d_one 10 (by kernel_rfl) rfl rfl (d_store Tryz.sizeOf53 rfl rfl rfl (Nat.le_of_ble_eq_true rfl) SetL.eq) rfl ?_; clear hS
      rintro _ _ rfl
      refine ⟨(sc_own sc_end), fun hS => ?_⟩
      refine d_done (by kernel_rfl) ?_; clear hS
      refine n_then ?_
      refine x_seq ?_
      refine x_region ?_
      refine s_val rfl (v_assign rfl) ?_
      refine x_nil ?_
      refine n_then ?_
      refine x_ret ?_
      refine x_done (.inl rfl) (.cons (r_tmp rfl) .nil) ?_
      exact ⟨_, ⟨rfl, rfl⟩, inferInstance⟩
  · rw [vsvD, if_neg hz, vsvF, if_neg hz]
    refine spec_body Tryz.func48 Tryz.ntmps48 rfl rfl ?_
    refine x_seq ?_
    refine x_region ?_
    refine s_val rfl (v_assign rfl) ?_
    refine x_nil ?_
    refine n_then ?_
    refine x_seq ?_
    refine x_region ?_
    refine s_val rfl (v_move rfl) ?_
    refine s_val rfl (v_move rfl) ?_
    refine s_val rfl (v_move rfl) ?_
    refine s_do rfl (d_call3 Tryz.call127 rfl (viFind_spec W0 _ pv ps pm d fr pg h pa hpa w 2)) ?_
    rintro _ B_ ⟨rfl, hB_⟩
    obtain rfl := hB_.symm
    rw [fndV, if_neg hz]
    refine s_val rfl (v_move rfl) ?_
    refine s_val rfl (v_extract rfl rfl) ?_
    refine s_val rfl (v_extract rfl rfl) ?_
    refine s_do rfl (d_allocA Tryz.zeroValue200) ?_
    rintro _ _ ⟨b1, rfl, rfl⟩
    refine s_do0 (d_storeAll Tryz.sizeOf200 rfl rfl rfl rfl rfl) ?_
    rintro _ _ rfl
    refine s_val rfl (v_assign rfl) ?_
    refine x_nil ?_
    refine n_then ?_
    refine x_seq ?_
    refine x_seq ?_
    refine x_region ?_
    refine s_val rfl (v_move rfl) ?_
    refine s_val rfl (v_neq rfl rfl) ?_
    refine x_nil ?_
    refine n_then ?_
    refine x_if rfl ?_ ?_
    · intro c2
      refine x_seq ?_
      refine x_region ?_
      refine s_val rfl (v_move rfl) ?_
      refine s_val rfl (v_assign rfl) ?_
      refine x_nil ?_
      refine n_then ?_
      refine x_ret ?_
      refine r_then ?_
      refine x_done (.inl rfl) (.cons (r_tmp rfl) .nil) ?_
      exact ⟨_, ⟨rfl, rfl⟩, inferInstance⟩
    · intro c2
      exact absurd hz c2
end Go.Proofs.YtechkfopkpkigaaGreat
