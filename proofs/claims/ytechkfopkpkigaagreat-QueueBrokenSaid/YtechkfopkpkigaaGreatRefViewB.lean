/-
  The reference of layer 16: Load, Save.
-/
import Derived.Test.YtechkfopkpkigaaGreatRefView
namespace Go.Proofs.YtechkfopkpkigaaGreat
open Go.RowKit
set_option linter.unusedSimpArgs false
set_option linter.unusedVariables false
set_option maxRecDepth 20000

theorem wr_set {a b : Value} {d n : Nat} (h : n < 12) : (a :: b :: wrV d).set (2 + n * 1) (.bool true) = a :: b :: wrV (d ||| 2 ^ n) := by
  rw [show 2 + n * 1 = n + 1 + 1 by omega, List.set_cons_succ, List.set_cons_succ]
  congr 2
  apply List.ext_getElem
  · simp [wrV]
  · intro i h1 h2
    have hi : i < 12 := by simpa [wrV] using h2
    by_cases e : n = i
    · subst e; simp [wrV, Nat.testBit_or, Nat.testBit_two_pow_self]
    · simp [wrV, List.getElem_set, e, Nat.testBit_or, Nat.testBit_two_pow_of_ne e]
theorem rvSave_spec (W0 : World) (R : List HP) (qv qs qm d : Nat) (fr : List Frm) (pg : List Pl) (h : Pgs pg) (hF : Frs fr) (pa : Nat) (hpa : pa < 4294967296) (w : Int) (x : Nat) (hx : x < 4294967296) :
    Spec Tryz.prog W0 58 [.pointer (some ⟨qv, 0, none⟩), .int .u32 pa, .int .i64 w, .int .u32 x] (pt qv (rvO qs qm d) :: rstoH qs fr :: pt qm (rgO pg) :: R)
      (fun v B => v = .int .i64 (fndE fr.length pg pa w 2) ∧ B = pt qv (rvO qs qm (vsvD fr pg pa w d)) :: rstoH qs (vsvF fr pg pa w x) :: pt qm (rgO pg) :: R) := by
  by_cases hz : fndE fr.length pg pa w 2 = 0
  · obtain ⟨h1, h2, hv⟩ := fnd_ok hz
    rw [vsvD, if_pos hz, vsvF, if_pos hz]
    refine spec_body Tryz.func58 Tryz.ntmps58 rfl rfl ?_
    refine x_seq ?_
    refine x_region ?_
    refine s_val rfl (v_assign rfl) ?_
    refine x_nil ?_
    refine n_then ?_
    refine x_seq ?_
    refine x_region ?_
    refine s_val rfl (v_move rfl) ?_
    refine s_val rfl (v_move rfl) ?_
    refine s_val rfl (v_move rfl) ?_
    refine s_do rfl (d_call3 Tryz.call143 rfl (rvFind_spec W0 _ qv qs qm d fr pg h pa hpa w 2)) ?_
    rintro _ B_ ⟨rfl, hB_⟩
    obtain rfl := hB_.symm
    rw [hv, hz]
    refine s_val rfl (v_move rfl) ?_
    refine s_val rfl (v_extract rfl rfl) ?_
    refine s_val rfl (v_extract rfl rfl) ?_
    refine s_do rfl (d_allocA Tryz.zeroValue200) ?_
    rintro _ _ ⟨b1, rfl, rfl⟩
    refine s_do0 (d_storeAll Tryz.sizeOf200 rfl rfl rfl rfl rfl) ?_
    rintro _ _ rfl
    refine s_val rfl (v_assign rfl) ?_
    refine x_nil ?_
    refine n_then ?_
    refine x_seq ?_
    refine x_seq ?_
    refine x_region ?_
    refine s_val rfl (v_move rfl) ?_
    refine s_val rfl (v_eql rfl rfl) ?_
    refine x_nil ?_
    refine n_then ?_
    refine x_if rfl ?_ ?_
    · intro c2
      refine x_seq ?_
      refine x_draw [(qv, 0, _), (b1, 0, _)] 11 mixed rfl (sc_own (sc_own sc_end)) (fun hS => ?_)
      refine d_take 0 rfl rfl (by kernel_rfl) (by kernel_rfl) (by kernel_rfl) rfl hS (v_move rfl) ?_
      refine d_take 1 rfl rfl (by kernel_rfl) (by kernel_rfl) (by kernel_rfl) rfl hS (v_nilCheck rfl) ?_
      refine d_take 2 rfl rfl (by kernel_rfl) (by kernel_rfl) (by kernel_rfl) rfl hS (v_fieldAddr rfl Tryz.underlying119 rfl Tryz.sizeOf115 rfl (by first | exact Nat.zero_add _ | rfl)) ?_
      refine d_take 3 rfl rfl (by kernel_rfl) (by kernel_rfl) (by kernel_rfl) rfl hS (v_load Tryz.isAgg115 rfl (by first | exact cell_sc0 (k := 0) rfl rfl | exact cell_sc0 (k := 1) rfl rfl)) ?_
      refine d_take 4 rfl rfl (by kernel_rfl) (by kernel_rfl) (by kernel_rfl) rfl hS (v_fieldAddr rfl Tryz.underlying200 rfl Tryz.sizeOf3 rfl (by first | exact Nat.zero_add _ | rfl)) ?_
      refine d_take 5 rfl rfl (by kernel_rfl) (by kernel_rfl) (by kernel_rfl) rfl hS (v_load Tryz.isAgg3 rfl (by first | exact cell_sc0 (k := 0) rfl rfl | exact cell_sc0 (k := 1) rfl rfl)) ?_
      refine d_take 6 rfl rfl (by kernel_rfl) (by kernel_rfl) (by kernel_rfl) rfl hS (v_fieldAddr rfl Tryz.underlying200 rfl Tryz.sizeOf3 rfl (by first | exact Nat.zero_add _ | rfl)) ?_
      refine d_take 7 rfl rfl (by kernel_rfl) (by kernel_rfl) (by kernel_rfl) rfl hS (v_load Tryz.isAgg3 rfl (by first | exact cell_sc0 (k := 0) rfl rfl | exact cell_sc0 (k := 1) rfl rfl)) ?_
      refine d_take 8 rfl rfl (by kernel_rfl) (by kernel_rfl) (by kernel_rfl) rfl hS (v_move rfl) ?_
      refine d_take 9 rfl rfl (by kernel_rfl) (by kernel_rfl) (by kernel_rfl) rfl hS (v_move rfl) ?_
      refine d_one 10 (by kernel_rfl) rfl rfl (d_call1 Tryz.call144 rfl (rfSave_spec W0 _ qs fr _ _ w x hx hF)) rfl ?_; clear hS
      rintro _ B_ ⟨rfl, hB_⟩
      obtain rfl := hB_.symm
      refine ⟨(sc_own (sc_own sc_end)), fun hS => ?_⟩
      refine d_done (by kernel_rfl) ?_; clear hS
      refine n_then ?_
      refine x_draw [(b1, 0, _)] 7 mixed rfl (sc_own sc_end) (fun hS => ?_)
      refine d_take 0 rfl rfl (by kernel_rfl) (by kernel_rfl) (by kernel_rfl) rfl hS (v_move rfl) ?_
      refine d_take 1 rfl rfl (by kernel_rfl) (by kernel_rfl) (by kernel_rfl) rfl hS (v_fieldAddr rfl Tryz.underlying200 rfl Tryz.sizeOf3 rfl (by first | exact Nat.zero_add _ | rfl)) ?_
      refine d_take 2 rfl rfl (by kernel_rfl) (by kernel_rfl) (by kernel_rfl) rfl hS (v_load Tryz.isAgg3 rfl (cell_sc0 (k := 0) rfl rfl)) ?_
      refine d_take 3 rfl rfl (by kernel_rfl) (by kernel_rfl) (by kernel_rfl) rfl hS (v_nilCheck rfl) ?_
      refine d_take 4 rfl rfl (by kernel_rfl) (by kernel_rfl) (by kernel_rfl) rfl hS (v_fieldAddr rfl Tryz.underlying119 rfl Tryz.sizeOf117 rfl (by first | exact Nat.zero_add _ | rfl)) ?_
      refine d_take 5 rfl rfl (by kernel_rfl) (by kernel_rfl) (by kernel_rfl) rfl hS (v_idxArr Tryz.underlying117 Tryz.sizeOf4 rfl rfl rfl (by omega) (by first | exact Nat.zero_add _ | rfl)) ?_
      refine d_one 6 (by kernel_rfl) rfl rfl (d_store Tryz.sizeOf4 rfl rfl rfl (by simp [wrV]; omega) (wr_set (by omega))) rfl ?_; clear hS
      rintro _ _ rfl
      refine ⟨(sc_own sc_end), fun hS => ?_⟩
      refine d_done (by kernel_rfl) ?_; clear hS
      refine n_then ?_
      refine x_seq ?_
      refine x_region ?_
      refine s_val rfl (v_move rfl) ?_
      refine s_val rfl (v_assign rfl) ?_
      refine x_nil ?_
      refine n_then ?_
      refine x_ret ?_
      refine x_done (.inl rfl) (.cons (r_tmp rfl) .nil) ?_
      exact ⟨_, ⟨rfl, rfl⟩, inferInstance⟩
    · intro c2
      exact absurd rfl c2
  · rw [vsvD, if_neg hz, vsvF, if_neg hz]
    refine spec_body Tryz.func58 Tryz.ntmps58 rfl rfl ?_
    refine x_seq ?_
    refine x_region ?_
    refine s_val rfl (v_assign rfl) ?_
    refine x_nil ?_
    refine n_then ?_
    refine x_seq ?_
    refine x_region ?_
    refine s_val rfl (v_move rfl) ?_
    refine s_val rfl (v_move rfl) ?_
    refine s_val rfl (v_move rfl) ?_
    refine s_do rfl (d_call3 Tryz.call143 rfl (rvFind_spec W0 _ qv qs qm d fr pg h pa hpa w 2)) ?_
    rintro _ B_ ⟨rfl, hB_⟩
    obtain rfl := hB_.symm
    rw [fndV, if_neg hz]
    refine s_val rfl (v_move rfl) ?_
    refine s_val rfl (v_extract rfl rfl) ?_
    refine s_val rfl (v_extract rfl rfl) ?_
    refine s_do rfl (d_allocA Tryz.zeroValue200) ?_
    rintro _ _ ⟨b1, rfl, rfl⟩
    refine s_do0 (d_storeAll Tryz.sizeOf200 rfl rfl rfl rfl rfl) ?_
    rintro _ _ rfl
    refine s_val rfl (v_assign rfl) ?_
    refine x_nil ?_
    refine n_then ?_
    refine x_seq ?_
    refine x_seq ?_
    refine x_region ?_
    refine s_val rfl (v_move rfl) ?_
    refine s_val rfl (v_eql rfl rfl) ?_
    refine x_nil ?_
    refine n_then ?_
    refine x_if rfl ?_ ?_
    · intro c2
      exact absurd c2 hz
    · intro c2
      refine x_skip ?_
      refine n_then ?_
      refine x_seq ?_
      refine x_region ?_
      refine s_val rfl (v_move rfl) ?_
      refine s_val rfl (v_assign rfl) ?_
      refine x_nil ?_
      refine n_then ?_
      refine x_ret ?_
      refine x_done (.inl rfl) (.cons (r_tmp rfl) .nil) ?_
      exact ⟨_, ⟨rfl, rfl⟩, inferInstance⟩
end Go.Proofs.YtechkfopkpkigaaGreat
