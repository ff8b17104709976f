/-
  Layer 16 (view): the laws' walks.
-/
import Derived.Test.YtpmacnfjafpdcaaRefViewC
import Derived.Test.YtpmacnfjafpdcaaStr
import Derived.Test.YtpmacnfjafpdcaaLaw
namespace Go.Proofs.Ytpmacnfjafpdcaa
open Go.RowKit
set_option linter.unusedSimpArgs false
set_option linter.unusedVariables false
set_option maxRecDepth 20000

theorem sla_base {α : Type} {W : World} {A : List HP} {a : Option Addr} {sz : Nat} {f : α → List Value} {xs : List α} (h : SlB W a sz f xs) : SlA (OwnP W A) a sz f xs := fun i x hi => by
  obtain ⟨b, off, rfl, hc⟩ := h i x hi
  exact ⟨b, off, rfl, hc A⟩
def inI (x : Int) : List Value := [.int .i64 x]
def pgK (pages : List Int) (pls : List Pl) : Nat → List Pl
  | 0 => List.replicate 12 (0, 0)
  | k + 1 => setP (pgK pages pls k) (pages.getD k 0) (pls.getD k (0, 0))
theorem pgs0 : Pgs (List.replicate 12 (0, 0)) := ⟨rfl, fun n hn hne => absurd (by
  unfold plAt; rw [List.getD_eq_getElem?_getD, List.getElem?_replicate]; split <;> rfl) hne⟩
theorem pgK_ok (pages : List Int) (pls : List Pl) : ∀ k, Pgs (pgK pages pls k)
  | 0 => pgs0
  | k + 1 => setP_ok (pgK_ok pages pls k)
def mdN (pages : List Int) (pls : List Pl) : Nat := min (min pages.length pls.length) 30
abbrev mdH (pv ps pm qv qs qm n : Nat) (pg : List Pl) (R : List HP) : List HP :=
  pt pv (viO ps pm 0) :: stoH ps (List.replicate n zeros) :: pt pm (gmO pg) :: pt qv (rvO qs qm 0) :: rstoH qs (List.replicate n zeros) :: pt qm (rgO pg) :: R

theorem made16_spec (W0 : World) (R : List HP) (n : Nat) (hn : n < 256) (a a' : Option Addr) (c c' : Nat) (pages : List Int) (pls : List Pl) (h1 : SlA (OwnP W0 R) a 1 inI pages) (h2 : SlA (OwnP W0 R) a' 2 plV pls) (hl1 : pages.length < 9223372036854775808) (hl2 : pls.length < 9223372036854775808) :
    Spec Try.prog W0 32 [.int .u8 n, .slice a pages.length c, .slice a' pls.length c'] R
      (fun v B => ∃ pv ps pm qv qs qm, v = .tuple #[.pointer (some ⟨pv, 0, none⟩), .pointer (some ⟨qv, 0, none⟩)] ∧ B = mdH pv ps pm qv qs qm (1 + n % 32) (pgK pages pls (mdN pages pls)) R) := by
  refine spec_body Try.func32 Try.ntmps32 rfl rfl ?_
  refine x_seq ?_
  refine x_region ?_
  refine s_val rfl (v_assign rfl) ?_
  refine s_val rfl (v_assign rfl) ?_
  refine x_nil ?_
  refine n_then ?_
  refine x_seq ?_
  refine x_region ?_
  refine s_val rfl (v_move rfl) ?_
  refine s_val rfl (v_rem rfl rfl (by decide) (tmodN n 32)) ?_
  refine s_val rfl (v_conv Try.underlying5 Try.underlying3 rfl (by first | exact w64 (by omega) | rfl)) ?_
  refine s_val rfl (v_add rfl rfl (by rw [w64 (by omega)]; omega : IntKind.wrap .i64 (1 + ((n % 32 : Nat) : Int)) = ((1 + n % 32 : Nat) : Int))) ?_
  refine s_val rfl (v_assign rfl) ?_
  refine x_nil ?_
  refine n_then ?_
  refine x_seq ?_
  refine x_region ?_
  refine s_val rfl (v_move rfl) ?_
  refine s_do rfl (d_call Try.call38 rfl (frNew_spec W0 _ (1 + n % 32) (by omega))) ?_
  rintro _ B_ ⟨ps, rfl, hB_⟩
  obtain rfl := hB_.symm
  refine s_val rfl (v_move rfl) ?_
  refine s_val rfl (v_extract rfl rfl) ?_
  refine s_val rfl (v_extract rfl rfl) ?_
  refine s_val rfl (v_assign rfl) ?_
  refine s_val rfl (v_assign rfl) ?_
  refine x_nil ?_
  refine n_then ?_
  refine x_seq ?_
  refine x_region ?_
  refine s_do rfl (d_call Try.call40 rfl (gmNew_spec W0 _)) ?_
  rintro _ B_ ⟨pm, rfl, hB_⟩
  obtain rfl := hB_.symm
  refine s_val rfl (v_assign rfl) ?_
  refine x_nil ?_
  refine n_then ?_
  refine x_seq ?_
  refine x_region ?_
  refine s_val rfl (v_move rfl) ?_
  refine s_do rfl (d_call Try.call74 rfl (rfNew_spec W0 _ (1 + n % 32) (by omega))) ?_
  rintro _ B_ ⟨qs, rfl, hB_⟩
  obtain rfl := hB_.symm
  refine s_val rfl (v_move rfl) ?_
  refine s_val rfl (v_extract rfl rfl) ?_
  refine s_val rfl (v_extract rfl rfl) ?_
  refine s_val rfl (v_assign rfl) ?_
  refine s_val rfl (v_assign rfl) ?_
  refine x_nil ?_
  refine n_then ?_
  refine x_seq ?_
  refine x_region ?_
  refine s_val rfl (v_build Try.underlying138 Try.zeroValue138 (sized_cons Try.sizeOf136 (sized_cons Try.sizeOf83 sized_nil)) fil_nil) ?_
  refine s_do rfl (d_boxA rfl) ?_
  rintro _ _ ⟨qm, rfl, rfl⟩
  refine s_val rfl (v_assign rfl) ?_
  refine x_nil ?_
  refine n_then ?_
  refine x_seq ?_
  refine x_seq ?_
  refine run_pt (b := qm) (o' := rgO (List.replicate 12 (0, 0))) rfl ?_
  refine x_region ?_
  refine s_val rfl (v_assign rfl) ?_
  refine x_nil ?_
  refine n_then ?_
  refine x_block ?_
  refine x_loop (fun i : Nat => i ≤ mdN pages pls) (fun i => [(1, .slice a pages.length c), (2, .slice a' pls.length c'), (9, .pointer (some ⟨ps, 0, none⟩)), (11, .pointer (some ⟨pm, 0, none⟩)), (12, .pointer (some ⟨qs, 0, none⟩)), (14, .pointer (some ⟨qm, 0, none⟩)), (15, .int .i64 i)]) (fun i => pt qm (rgO (pgK pages pls i)) :: rstoH qs (List.replicate (1 + n % 32) zeros) :: pt pm (gmO (pgK pages pls i)) :: stoH ps (List.replicate (1 + n % 32) zeros) :: R) (fun i => mdN pages pls - i) 0 ?_ ?_ ?_ ?_
  · exact Nat.zero_le _
  · repeat (first | exact sub_nil | refine sub_cons rfl ?_)
  · simp only [pgK]; exact inferInstance
  · intro i hi
    have hmd : mdN pages pls = min (min pages.length pls.length) 30 := rfl
    refine x_seq ?_
    refine x_seq ?_
    refine x_region ?_
    refine s_val rfl (v_move rfl) ?_
    refine s_val rfl (v_move rfl) ?_
    refine s_val rfl (v_len_slice Try.underlying56 rfl) ?_
    refine s_val rfl (v_lss rfl rfl) ?_
    refine s_val rfl (v_move rfl) ?_
    refine s_and rfl rfl rfl ?_ ?_
    · intro g7_5
      refine s_val rfl (v_move rfl) ?_
      refine s_yes rfl rfl ?_
      refine s_val rfl (v_move rfl) ?_
      refine s_yes rfl rfl ?_
      refine s_val rfl (v_len_slice Try.underlying57 rfl) ?_
      refine s_yes rfl rfl ?_
      refine s_val rfl (v_lss rfl rfl) ?_
      refine s_val rfl (v_pick_t rfl rfl) ?_
      refine s_val rfl (v_move rfl) ?_
      refine s_and rfl rfl rfl ?_ ?_
      · intro g7_11
        refine s_val rfl (v_move rfl) ?_
        refine s_yes rfl rfl ?_
        refine s_val rfl (v_lss rfl rfl) ?_
        refine s_val rfl (v_pick_t rfl rfl) ?_
        refine x_nil ?_
        refine n_then ?_
        refine x_if rfl ?_ ?_
        · intro c7
          refine x_skip ?_
          refine n_then ?_
          refine x_seq ?_
          refine x_block ?_
          refine x_seq ?_
          have hi1 : i < pages.length := by omega
          have hi2 : i < pls.length := by omega
          obtain ⟨gp, op, rfl, hc1⟩ := h1.at_ hi1
          obtain ⟨gq, oq, rfl, hc2⟩ := h2.at_ hi2
          have hpg := pgK_ok pages pls i
          have e1 : pages.getD i 0 = pages[i] := by simp [List.getD, hi1]
          have e2 : pls.getD i (0, 0) = pls[i] := by simp [List.getD, hi2]
          refine x_draw [(gp, op + i * 1, inI pages[i]), (gq, oq + i * 2, plV pls[i])] 10 mixed rfl (sc_cons hc1.weak (sc_cons hc2.weak sc_end)) (fun hS => ?_)
          refine d_take 0 rfl rfl (by kernel_rfl) (by kernel_rfl) (by kernel_rfl) rfl hS (v_move rfl) ?_
          refine d_take 1 rfl rfl (by kernel_rfl) (by kernel_rfl) (by kernel_rfl) rfl hS (v_move rfl) ?_
          refine d_take 2 rfl rfl (by kernel_rfl) (by kernel_rfl) (by kernel_rfl) rfl hS (v_move rfl) ?_
          refine d_take 3 rfl rfl (by kernel_rfl) (by kernel_rfl) (by kernel_rfl) rfl hS (v_idx Try.underlying56 Try.sizeOf3 rfl rfl rfl hi1 (by first | exact Nat.zero_add _ | rfl)) ?_
          refine d_take 4 rfl rfl (by kernel_rfl) (by kernel_rfl) (by kernel_rfl) rfl hS (v_load Try.isAgg3 rfl (cell_sc1 (k := 0) rfl)) ?_
          refine d_take 5 rfl rfl (by kernel_rfl) (by kernel_rfl) (by kernel_rfl) rfl hS (v_move rfl) ?_
          refine d_take 6 rfl rfl (by kernel_rfl) (by kernel_rfl) (by kernel_rfl) rfl hS (v_move rfl) ?_
          refine d_take 7 rfl rfl (by kernel_rfl) (by kernel_rfl) (by kernel_rfl) rfl hS (v_idx Try.underlying57 Try.sizeOf82 rfl rfl rfl hi2 (by first | exact Nat.zero_add _ | rfl)) ?_
          refine d_take 8 rfl rfl (by kernel_rfl) (by kernel_rfl) (by kernel_rfl) rfl hS (v_loadAgg Try.isAgg82 Try.sizeOf82 rfl (cells_sc (k := 1) rfl) rfl) ?_
          refine d_one 9 (by kernel_rfl) rfl rfl (d_call1 Try.call75 rfl (gmSet_spec W0 _ pm _ hpg pages[i] pls[i])) rfl ?_; clear hS
          rintro _ B_ ⟨rfl, hB_⟩
          obtain rfl := hB_.symm
          refine ⟨(sc_cons hc1.weak (sc_cons hc2.weak sc_end)), fun hS => ?_⟩
          refine d_done (by kernel_rfl) ?_; clear hS
          refine n_then ?_
          refine x_draw [(gp, op + i * 1, inI pages[i]), (gq, oq + i * 2, plV pls[i])] 10 mixed rfl (sc_cons hc1.weak (sc_cons hc2.weak sc_end)) (fun hS => ?_)
          refine d_take 0 rfl rfl (by kernel_rfl) (by kernel_rfl) (by kernel_rfl) rfl hS (v_move rfl) ?_
          refine d_take 1 rfl rfl (by kernel_rfl) (by kernel_rfl) (by kernel_rfl) rfl hS (v_move rfl) ?_
          refine d_take 2 rfl rfl (by kernel_rfl) (by kernel_rfl) (by kernel_rfl) rfl hS (v_move rfl) ?_
          refine d_take 3 rfl rfl (by kernel_rfl) (by kernel_rfl) (by kernel_rfl) rfl hS (v_idx Try.underlying56 Try.sizeOf3 rfl rfl rfl hi1 (by first | exact Nat.zero_add _ | rfl)) ?_
          refine d_take 4 rfl rfl (by kernel_rfl) (by kernel_rfl) (by kernel_rfl) rfl hS (v_load Try.isAgg3 rfl (cell_sc1 (k := 0) rfl)) ?_
          refine d_take 5 rfl rfl (by kernel_rfl) (by kernel_rfl) (by kernel_rfl) rfl hS (v_move rfl) ?_
          refine d_take 6 rfl rfl (by kernel_rfl) (by kernel_rfl) (by kernel_rfl) rfl hS (v_move rfl) ?_
          refine d_take 7 rfl rfl (by kernel_rfl) (by kernel_rfl) (by kernel_rfl) rfl hS (v_idx Try.underlying57 Try.sizeOf82 rfl rfl rfl hi2 (by first | exact Nat.zero_add _ | rfl)) ?_
          refine d_take 8 rfl rfl (by kernel_rfl) (by kernel_rfl) (by kernel_rfl) rfl hS (v_loadAgg Try.isAgg82 Try.sizeOf82 rfl (cells_sc (k := 1) rfl) rfl) ?_
          refine d_one 9 (by kernel_rfl) rfl rfl (d_call1 Try.call76 rfl (rgSet_spec W0 _ qm _ hpg pages[i] pls[i])) rfl ?_; clear hS
          rintro _ B_ ⟨rfl, hB_⟩
          obtain rfl := hB_.symm
          refine ⟨(sc_cons hc1.weak (sc_cons hc2.weak sc_end)), fun hS => ?_⟩
          refine d_done (by kernel_rfl) ?_; clear hS
          refine n_block ?_
          refine n_then ?_
          refine x_region ?_
          refine s_val rfl (v_move rfl) ?_
          refine s_val rfl (v_add rfl rfl (by first | exact w64 (by omega) | rfl)) ?_
          refine s_val rfl (v_assign rfl) ?_
          refine x_nil ?_
          refine n_then ?_
          refine inv_intro (i + 1) ?_ ?_ ?_ ?_
          · omega
          · omega
          · repeat (first | exact sub_nil | refine sub_cons rfl ?_)
          · simp only [pgK, e1, e2]; exact inferInstance
        · intro c7
          refine x_exit ?_
          refine e_then ?_
          refine e_then ?_
          refine e_block ?_
          refine n_then ?_
          refine x_seq ?_
          have e0 : i = mdN pages pls := by omega
          subst e0
          refine x_region ?_
          refine s_val rfl (v_move rfl) ?_
          refine s_val rfl (v_move rfl) ?_
          refine s_do rfl (d_call2 Try.call39 rfl (viNew_spec W0 _ ps pm _ _ (pgK_ok pages pls _) (by simp; omega))) ?_
          rintro _ B_ ⟨pv, rfl, hB_⟩
          obtain rfl := hB_.symm
          refine s_val rfl (v_move rfl) ?_
          refine s_val rfl (v_extract rfl rfl) ?_
          refine s_val rfl (v_extract rfl rfl) ?_
          refine s_val rfl (v_assign rfl) ?_
          refine s_val rfl (v_assign rfl) ?_
          refine x_nil ?_
          refine n_then ?_
          refine x_seq ?_
          refine x_seq ?_
          refine x_region ?_
          refine s_val rfl (v_move rfl) ?_
          refine s_val rfl (v_neq rfl rfl) ?_
          refine x_nil ?_
          refine n_then ?_
          refine x_if rfl ?_ ?_
          · intro c12
            exact absurd rfl c12
          · intro c12
            refine x_skip ?_
            refine n_then ?_
            refine x_seq ?_
            refine x_region ?_
            refine s_val rfl (v_move rfl) ?_
            refine s_val rfl (v_move rfl) ?_
            refine s_val rfl (v_move rfl) ?_
            refine s_val rfl (v_build Try.underlying142 Try.zeroValue142 (sized_cons Try.sizeOf132 (sized_cons Try.sizeOf135 (sized_cons Try.sizeOf136 sized_nil))) (fil_scal rfl Try.sizeOf132 rfl rfl (Nat.le_of_ble_eq_true rfl) SetL.eq (fil_scal rfl Try.sizeOf135 rfl rfl (Nat.le_of_ble_eq_true rfl) SetL.eq fil_nil))) ?_
            refine s_do rfl (d_boxA rfl) ?_
            rintro _ _ ⟨qv, rfl, rfl⟩
            refine s_val rfl (v_assign rfl) ?_
            refine s_val rfl (v_assign rfl) ?_
            refine x_nil ?_
            refine n_then ?_
            refine x_ret ?_
            refine run_pt (b := qv) (o' := rvO qs qm 0) rfl ?_
            refine x_done (.inl rfl) (.cons (r_tmp rfl) (.cons (r_tmp rfl) .nil)) ?_
            exact ⟨_, ⟨pv, ps, pm, qv, qs, qm, rfl, rfl⟩, inferInstance⟩
      · intro g7_11
        refine s_no rfl rfl rfl rfl ?_
        refine s_val rfl (v_pick_f rfl rfl) ?_
        refine x_nil ?_
        refine n_then ?_
        refine x_iff rfl ?_
        refine x_exit ?_
        refine e_then ?_
        refine e_then ?_
        refine e_block ?_
        refine n_then ?_
        refine x_seq ?_
        have e0 : i = mdN pages pls := by omega
        subst e0
        refine x_region ?_
        refine s_val rfl (v_move rfl) ?_
        refine s_val rfl (v_move rfl) ?_
        refine s_do rfl (d_call2 Try.call39 rfl (viNew_spec W0 _ ps pm _ _ (pgK_ok pages pls _) (by simp; omega))) ?_
        rintro _ B_ ⟨pv, rfl, hB_⟩
        obtain rfl := hB_.symm
        refine s_val rfl (v_move rfl) ?_
        refine s_val rfl (v_extract rfl rfl) ?_
        refine s_val rfl (v_extract rfl rfl) ?_
        refine s_val rfl (v_assign rfl) ?_
        refine s_val rfl (v_assign rfl) ?_
        refine x_nil ?_
        refine n_then ?_
        refine x_seq ?_
        refine x_seq ?_
        refine x_region ?_
        refine s_val rfl (v_move rfl) ?_
        refine s_val rfl (v_neq rfl rfl) ?_
        refine x_nil ?_
        refine n_then ?_
        refine x_if rfl ?_ ?_
        · intro c12
          exact absurd rfl c12
        · intro c12
          refine x_skip ?_
          refine n_then ?_
          refine x_seq ?_
          refine x_region ?_
          refine s_val rfl (v_move rfl) ?_
          refine s_val rfl (v_move rfl) ?_
          refine s_val rfl (v_move rfl) ?_
          refine s_val rfl (v_build Try.underlying142 Try.zeroValue142 (sized_cons Try.sizeOf132 (sized_cons Try.sizeOf135 (sized_cons Try.sizeOf136 sized_nil))) (fil_scal rfl Try.sizeOf132 rfl rfl (Nat.le_of_ble_eq_true rfl) SetL.eq (fil_scal rfl Try.sizeOf135 rfl rfl (Nat.le_of_ble_eq_true rfl) SetL.eq fil_nil))) ?_
          refine s_do rfl (d_boxA rfl) ?_
          rintro _ _ ⟨qv, rfl, rfl⟩
          refine s_val rfl (v_assign rfl) ?_
          refine s_val rfl (v_assign rfl) ?_
          refine x_nil ?_
          refine n_then ?_
          refine x_ret ?_
          refine run_pt (b := qv) (o' := rvO qs qm 0) rfl ?_
          refine x_done (.inl rfl) (.cons (r_tmp rfl) (.cons (r_tmp rfl) .nil)) ?_
          exact ⟨_, ⟨pv, ps, pm, qv, qs, qm, rfl, rfl⟩, inferInstance⟩
    · intro g7_5
      refine s_no rfl rfl rfl rfl ?_
      refine s_no rfl rfl rfl rfl ?_
      refine s_no rfl rfl rfl rfl ?_
      refine s_val rfl (v_pick_f rfl rfl) ?_
      refine s_val rfl (v_move rfl) ?_
      refine s_no rfl rfl rfl rfl ?_
      refine s_no rfl rfl rfl rfl ?_
      refine s_val rfl (v_pick_f rfl rfl) ?_
      refine x_nil ?_
      refine n_then ?_
      refine x_iff rfl ?_
      refine x_exit ?_
      refine e_then ?_
      refine e_then ?_
      refine e_block ?_
      refine n_then ?_
      refine x_seq ?_
      have e0 : i = mdN pages pls := by omega
      subst e0
      refine x_region ?_
      refine s_val rfl (v_move rfl) ?_
      refine s_val rfl (v_move rfl) ?_
      refine s_do rfl (d_call2 Try.call39 rfl (viNew_spec W0 _ ps pm _ _ (pgK_ok pages pls _) (by simp; omega))) ?_
      rintro _ B_ ⟨pv, rfl, hB_⟩
      obtain rfl := hB_.symm
      refine s_val rfl (v_move rfl) ?_
      refine s_val rfl (v_extract rfl rfl) ?_
      refine s_val rfl (v_extract rfl rfl) ?_
      refine s_val rfl (v_assign rfl) ?_
      refine s_val rfl (v_assign rfl) ?_
      refine x_nil ?_
      refine n_then ?_
      refine x_seq ?_
      refine x_seq ?_
      refine x_region ?_
      refine s_val rfl (v_move rfl) ?_
      refine s_val rfl (v_neq rfl rfl) ?_
      refine x_nil ?_
      refine n_then ?_
      refine x_if rfl ?_ ?_
      · intro c12
        exact absurd rfl c12
      · intro c12
        refine x_skip ?_
        refine n_then ?_
        refine x_seq ?_
        refine x_region ?_
        refine s_val rfl (v_move rfl) ?_
        refine s_val rfl (v_move rfl) ?_
        refine s_val rfl (v_move rfl) ?_
        refine s_val rfl (v_build Try.underlying142 Try.zeroValue142 (sized_cons Try.sizeOf132 (sized_cons Try.sizeOf135 (sized_cons Try.sizeOf136 sized_nil))) (fil_scal rfl Try.sizeOf132 rfl rfl (Nat.le_of_ble_eq_true rfl) SetL.eq (fil_scal rfl Try.sizeOf135 rfl rfl (Nat.le_of_ble_eq_true rfl) SetL.eq fil_nil))) ?_
        refine s_do rfl (d_boxA rfl) ?_
        rintro _ _ ⟨qv, rfl, rfl⟩
        refine s_val rfl (v_assign rfl) ?_
        refine s_val rfl (v_assign rfl) ?_
        refine x_nil ?_
        refine n_then ?_
        refine x_ret ?_
        refine run_pt (b := qv) (o' := rvO qs qm 0) rfl ?_
        refine x_done (.inl rfl) (.cons (r_tmp rfl) (.cons (r_tmp rfl) .nil)) ?_
        exact ⟨_, ⟨pv, ps, pm, qv, qs, qm, rfl, rfl⟩, inferInstance⟩

theorem aw16 : ∃ fr pg, fr = List.replicate (1 + 9 % 32) zeros ∧ pg = pgK [1] [(5, 3)] (mdN [1] [(5, 3)]) ∧ Frs fr ∧ Pgs pg ∧ fndE fr.length pg 64 4 2 = 0 ∧ vsvD fr pg 64 4 0 = 2 ∧ vldN (vsvF fr pg 64 4 7) pg 64 4 = 7 :=
  ⟨_, _, rfl, rfl, Frs.new _, pgK_ok _ _ _, by decide +kernel, by decide +kernel, by decide +kernel⟩
theorem vsvF_ok {fr : List Frm} {pg : List Pl} {pa : Nat} {w : Int} {x : Nat} (h : Frs fr) : Frs (vsvF fr pg pa w x) ∧ (vsvF fr pg pa w x).length = fr.length := by
  unfold vsvF; split
  · exact ⟨svF_ok h, svF_len⟩
  · exact ⟨h, rfl⟩
theorem vsvD_lt {fr : List Frm} {pg : List Pl} {pa d : Nat} {w : Int} (h : d < 4096) : vsvD fr pg pa w d < 4096 := by
  unfold vsvD; split
  · rename_i hs; exact Nat.or_lt_two_pow (n := 12) h (page_lt (by have := (fnd_ok hs).1; omega))
  · exact h
theorem awake16_spec (W0 : World) (R : List HP) : Spec Try.prog W0 34 [] R (fun v B => v = .bool true ∧ B = R) := by
  obtain ⟨fr, pg, hfr, hpg, hF, hP, e1, e2, e3⟩ := aw16
  refine spec_body Try.func34 Try.ntmps34 rfl rfl ?_
  refine x_seq ?_
  refine x_region ?_
  refine s_val rfl (v_assign rfl) ?_
  refine x_nil ?_
  refine n_then ?_
  refine x_seq ?_
  refine x_region ?_
  refine s_do rfl (d_sliceLit Try.underlying56 Try.sizeOf3 Try.zeroValue3 rfl rfl rfl rfl rfl (by decide) (by decide)) ?_
  rintro _ _ ⟨b1, rfl, rfl⟩
  refine s_val rfl (v_build Try.underlying82 Try.zeroValue82 (sized_cons Try.sizeOf3 (sized_cons Try.sizeOf3 sized_nil)) (fil_scal rfl Try.sizeOf3 rfl rfl (Nat.le_of_ble_eq_true rfl) SetL.eq (fil_scal rfl Try.sizeOf3 rfl rfl (Nat.le_of_ble_eq_true rfl) SetL.eq fil_nil))) ?_
  refine s_do rfl (d_sliceAgg Try.underlying57 Try.sizeOf82 Try.zeroValue82 rfl (elsK_cons rfl rfl elsK_nil) rfl (by decide) (by decide) (by decide)) ?_
  rintro _ _ ⟨b2, rfl, rfl⟩
  refine s_do rfl (d_call Try.call32 rfl (made16_spec W0 _ 9 (by decide) _ _ _ _ [1] [(5, 3)] (sla_pt (fun _ => rfl) rfl) (sla_pt (fun _ => rfl) rfl) (by decide) (by decide))) ?_
  rintro _ B_ ⟨pv, ps, pm, qv, qs, qm, rfl, hB_⟩
  obtain rfl := hB_.symm
  rw [mdH, ← hfr, ← hpg]
  refine s_val rfl (v_move rfl) ?_
  refine s_val rfl (v_extract rfl rfl) ?_
  refine s_val rfl (v_extract rfl rfl) ?_
  refine s_val rfl (v_assign rfl) ?_
  refine s_val rfl (v_assign rfl) ?_
  refine x_nil ?_
  refine n_then ?_
  refine x_seq ?_
  refine x_seq ?_
  refine x_region ?_
  refine s_val rfl (v_move rfl) ?_
  refine s_val rfl (v_eql_ptr_nil Try.underlying58 rfl rfl) ?_
  refine s_val rfl (v_move rfl) ?_
  refine s_or rfl rfl rfl ?_ ?_
  · intro g2_3
    cases g2_3
  · intro g2_3
    refine s_val rfl (v_move rfl) ?_
    refine s_yes rfl rfl ?_
    refine s_do rfl (d_call3 Try.call41 rfl (viSave_spec W0 _ pv ps pm 0 fr pg hP hF (by decide) 64 (by decide) 4 7 (by decide))) ?_
    rintro _ B_ ⟨rfl, hB_⟩
    obtain rfl := hB_.symm
    rw [e1, e2]
    refine s_yes rfl rfl ?_
    refine s_val rfl (v_neq rfl rfl) ?_
    refine s_val rfl (v_pick_f rfl rfl) ?_
    refine x_nil ?_
    refine n_then ?_
    refine x_if rfl ?_ ?_
    · intro c2
      exact absurd c2 (by decide)
    · intro c2
      refine x_skip ?_
      refine n_then ?_
      refine x_seq ?_
      refine x_region ?_
      refine s_val rfl (v_move rfl) ?_
      refine s_do rfl (d_call1 Try.call43 rfl (viDirty_spec W0 _ pv ps pm _ (by decide))) ?_
      rintro _ B_ ⟨a, c, rfl, hB_⟩
      obtain rfl := hB_.symm
      rw [show drL 2 12 = [1] by decide]
      refine s_val rfl (v_assign rfl) ?_
      refine x_nil ?_
      refine n_then ?_
      refine x_seq ?_
      refine x_region ?_
      refine s_val rfl (v_move rfl) ?_
      refine s_do rfl (d_call3 Try.call36 rfl (viLoad_spec W0 _ pv ps pm 0 _ pg hP (vsvF_ok hF).1 64 (by decide) 4)) ?_
      rintro _ B_ ⟨rfl, hB_⟩
      obtain rfl := hB_.symm
      rw [e3]
      refine run_sla (E := 3) (sz := 1) (a := a) (n := 1) (c := c) (fun n => [inV n]) [1] (fun _ => rfl) (by decide) rfl (fun hs => ?_)
      obtain ⟨g, o, rfl, hc⟩ := hs.at_ (i := 0) (by decide)
      refine s_val rfl (v_move rfl) ?_
      refine s_val rfl (v_extract rfl rfl) ?_
      refine s_val rfl (v_extract rfl rfl) ?_
      refine s_val rfl (v_assign rfl) ?_
      refine s_val rfl (v_assign rfl) ?_
      refine x_nil ?_
      refine n_then ?_
      refine x_seq ?_
      refine x_region ?_
      refine s_val rfl (v_move rfl) ?_
      refine s_val rfl (v_len_slice Try.underlying56 rfl) ?_
      refine s_val rfl (v_eql rfl rfl) ?_
      refine s_val rfl (v_move rfl) ?_
      refine s_and rfl rfl rfl ?_ ?_
      · intro g6_4
        refine s_val rfl (v_move rfl) ?_
        refine s_yes rfl rfl ?_
        refine s_val rfl (v_idx Try.underlying56 Try.sizeOf3 rfl rfl rfl (by decide) (by first | exact Nat.zero_add _ | rfl)) ?_
        refine s_yes rfl rfl ?_
        refine s_val rfl (v_load Try.isAgg3 rfl (Cells.weak hc 0 _ rfl)) ?_
        refine s_yes rfl rfl ?_
        refine s_val rfl (v_eql rfl rfl) ?_
        refine s_val rfl (v_pick_t rfl rfl) ?_
        refine s_val rfl (v_move rfl) ?_
        refine s_and rfl rfl rfl ?_ ?_
        · intro g6_10
          refine s_val rfl (v_move rfl) ?_
          refine s_yes rfl rfl ?_
          refine s_val rfl (v_eql rfl rfl) ?_
          refine s_val rfl (v_pick_t rfl rfl) ?_
          refine s_val rfl (v_assign rfl) ?_
          refine x_nil ?_
          refine n_then ?_
          refine x_ret ?_
          refine x_done (.inl rfl) (.cons (r_tmp rfl) .nil) ?_
          exact ⟨_, ⟨rfl, rfl⟩, inferInstance⟩
        · intro g6_10
          exact absurd rfl g6_10
      · intro g6_4
        exact absurd rfl g6_4
end Go.Proofs.Ytpmacnfjafpdcaa
