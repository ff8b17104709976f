/-
  Layer 23 (queue): QueueBroken, the walk.
-/
import Derived.Test.YtechkfopkpkigaaGreatRefQueue
import Derived.Test.YtechkfopkpkigaaGreatDrop
import Derived.Test.YtechkfopkpkigaaGreatKitB
import Derived.Test.YtechkfopkpkigaaGreatQueueJ
namespace Go.Proofs.YtechkfopkpkigaaGreat
open Go.RowKit
set_option linter.unusedSimpArgs false
set_option linter.unusedVariables false
set_option maxRecDepth 20000

/-- A queue that is broken. -/
structure Brk (s : QS) : Prop where
  ok : QOk s
  r : s.r.ok
  br : s.br ≠ 0
theorem Brk.nx {s : QS} (h : Brk s) (fr : List Frm) (pg : List Pl) : nxR fr pg s = (0, false, s.br) ∧ nxS fr pg s = s := by
  have : ¬ (s.on && decide (s.br = 0)) = true := by simp [h.br]
  exact ⟨by rw [nxR, if_neg this], by rw [nxS, if_neg this]⟩
theorem Brk.tk {s : QS} (h : Brk s) (fr : List Frm) (pg : List Pl) : tkR fr pg s = (0, [], false, s.br) ∧ tkS fr pg s = s := by
  obtain ⟨h1, h2⟩ := h.nx fr pg
  exact ⟨by rw [tkR, h1]; rfl, by rw [tkS, h1, h2]; rfl⟩
theorem Brk.dn {s : QS} (h : Brk s) (fr : List Frm) (pg : List Pl) (d x y : Nat) : dnX fr pg d s x y = ⟨s.br, s, fr, d⟩ := by
  have : ¬ (s.on && decide (s.br = 0)) = true := by simp [h.br]
  rw [dnX, if_neg this]
theorem Brk.bk {s : QS} (h : Brk s) (w : Int) : bkS s w = s := by
  unfold bkS; split
  · rw [if_neg h.br]
  · rfl
theorem descs23_nil (W0 : World) (R : List HP) (a a' : Option Addr) (c c' : Nat) : Spec Tryz.prog W0 102 [.slice a 0 c, .slice a' 0 c'] R (fun v B => v = .bool true ∧ B = R) := by
  refine spec_body Tryz.func102 Tryz.ntmps102 rfl rfl ?_
  refine x_seq ?_
  refine x_region ?_
  refine s_val rfl (v_assign rfl) ?_
  refine x_nil ?_
  refine n_then ?_
  refine x_seq ?_
  refine x_seq ?_
  refine x_region ?_
  refine s_val rfl (v_move rfl) ?_
  refine s_val rfl (v_len_slice Tryz.underlying43 rfl) ?_
  refine s_val rfl (v_move rfl) ?_
  refine s_val rfl (v_len_slice Tryz.underlying43 rfl) ?_
  refine s_val rfl (v_neq rfl rfl) ?_
  refine x_nil ?_
  refine n_then ?_
  refine x_if rfl ?_ ?_
  · intro c1
    exact absurd rfl c1
  · intro c1
    refine x_skip ?_
    refine n_then ?_
    refine x_seq ?_
    refine x_seq ?_
    refine x_region ?_
    refine s_val rfl (v_assign rfl) ?_
    refine x_nil ?_
    refine n_then ?_
    refine x_block ?_
    refine x_loop (fun i : Nat => i = 0) (fun i => [(0, .slice a 0 c), (1, .slice a' 0 c'), (5, .int .i64 i)]) (fun i => R) (fun i => 0) 0 ?_ ?_ ?_ ?_
    · rfl
    · repeat (first | exact sub_nil | refine sub_cons rfl ?_)
    · exact inferInstance
    · intro i hi
      refine x_seq ?_
      refine x_seq ?_
      refine x_region ?_
      refine s_val rfl (v_move rfl) ?_
      refine s_val rfl (v_move rfl) ?_
      refine s_val rfl (v_len_slice Tryz.underlying43 rfl) ?_
      refine s_val rfl (v_lss rfl rfl) ?_
      refine s_val rfl (v_move rfl) ?_
      refine s_and rfl rfl rfl ?_ ?_
      · intro g4_5
        omega
      · intro g4_5
        refine s_no rfl rfl rfl rfl ?_
        refine s_no rfl rfl rfl rfl ?_
        refine s_no rfl rfl rfl rfl ?_
        refine s_val rfl (v_pick_f rfl rfl) ?_
        refine x_nil ?_
        refine n_then ?_
        refine x_iff rfl ?_
        refine x_exit ?_
        refine e_then ?_
        refine e_then ?_
        refine e_block ?_
        refine n_then ?_
        refine x_seq ?_
        refine x_region ?_
        refine s_val rfl (v_assign rfl) ?_
        refine x_nil ?_
        refine n_then ?_
        refine x_ret ?_
        refine x_done (.inl rfl) (.cons (r_tmp rfl) .nil) ?_
        exact ⟨_, ⟨rfl, rfl⟩, inferInstance⟩
structure Act23 where
  k : Int
  r : Rg3
  a : Int
  b : Int
@[reducible] def act23V (t : Act23) : List Value := [.int .i64 t.k, .int .u32 t.r.desc, .int .u32 t.r.avail, .int .u32 t.r.used, .int .i64 t.r.n, .int .i64 t.a, .int .i64 t.b]
theorem do23_spec (W0 : World) (R : List HP) (bq br pv ps pm qv qs qm d : Nat) (fr : List Frm) (pg : List Pl) (h : Pgs pg) (hF : Frs fr) (hd : d < 4096) (s : QS) (hs : Brk s) (t : Act23) (ht : 1 < t.k) :
    Spec Tryz.prog W0 33 [.pointer (some ⟨bq, 0, none⟩), .pointer (some ⟨pv, 0, none⟩), .pointer (some ⟨br, 0, none⟩), .pointer (some ⟨qv, 0, none⟩), .agg (act23V t).toArray] (pt bq (qO true s) :: pt br (rqO s) :: prH pv ps pm qv qs qm d fr pg R)
      (fun v B => ∃ b fr' pg' d', v = .bool b ∧ (Frs fr' ∧ fr'.length = fr.length ∧ Pgs pg' ∧ d' < 4096) ∧ B = pt bq (qO true s) :: pt br (rqO s) :: prH pv ps pm qv qs qm d' fr' pg' R) := by
  obtain ⟨n1, n2⟩ := hs.nx fr pg
  obtain ⟨t1, t2⟩ := hs.tk fr pg
  refine spec_body Tryz.func33 Tryz.ntmps33 rfl rfl ?_
  refine x_seq ?_
  refine x_region ?_
  refine s_do rfl (d_boxA rfl) ?_
  rintro _ _ ⟨b1, rfl, rfl⟩
  refine s_val rfl (v_assign rfl) ?_
  refine x_nil ?_
  refine n_then ?_
  refine x_seq ?_
  refine x_region ?_
  refine s_val rfl (v_fieldAddr rfl Tryz.underlying67 rfl Tryz.sizeOf3 rfl (by first | exact Nat.zero_add _ | rfl)) ?_
  refine s_val rfl (v_load Tryz.isAgg3 rfl (cell_own rfl)) ?_
  refine x_nil ?_
  refine n_then ?_
  refine x_block ?_
  refine x_seq ?_
  refine x_region ?_
  refine s_val rfl (v_eql rfl rfl) ?_
  refine s_val rfl (v_assign rfl) ?_
  refine x_nil ?_
  refine n_then ?_
  refine x_if rfl ?_ ?_
  · intro c3
    omega
  · intro c3
    refine x_seq ?_
    refine x_region ?_
    refine s_val rfl (v_eql rfl rfl) ?_
    refine s_val rfl (v_assign rfl) ?_
    refine x_nil ?_
    refine n_then ?_
    refine x_if rfl ?_ ?_
    · intro c5
      omega
    · intro c5
      refine x_seq ?_
      refine x_region ?_
      refine s_val rfl (v_eql rfl rfl) ?_
      refine s_val rfl (v_assign rfl) ?_
      refine x_nil ?_
      refine n_then ?_
      refine x_if rfl ?_ ?_
      · intro c8
        refine x_seq ?_
        refine x_region ?_
        refine s_val rfl (v_move rfl) ?_
        refine s_val rfl (v_move rfl) ?_
        refine s_do rfl (d_call4 Tryz.call34 rfl (qNext_spec W0 _ bq pv ps pm d fr pg h hF s hs.ok)) ?_
        rintro _ B_ ⟨rfl, hB_⟩
        obtain rfl := hB_.symm
        rw [n1, n2]
        refine s_val rfl (v_move rfl) ?_
        refine s_val rfl (v_extract rfl rfl) ?_
        refine s_val rfl (v_extract rfl rfl) ?_
        refine s_val rfl (v_extract rfl rfl) ?_
        refine s_val rfl (v_assign rfl) ?_
        refine s_val rfl (v_assign rfl) ?_
        refine s_val rfl (v_assign rfl) ?_
        refine x_nil ?_
        refine n_then ?_
        refine x_seq ?_
        refine x_region ?_
        refine s_val rfl (v_move rfl) ?_
        refine s_val rfl (v_move rfl) ?_
        refine s_do rfl (d_call4 Tryz.call100 rfl (rqNext_spec W0 _ br qv qs qm d fr pg h hF s hs.ok)) ?_
        rintro _ B_ ⟨rfl, hB_⟩
        obtain rfl := hB_.symm
        rw [n1, n2]
        refine s_val rfl (v_move rfl) ?_
        refine s_val rfl (v_extract rfl rfl) ?_
        refine s_val rfl (v_extract rfl rfl) ?_
        refine s_val rfl (v_extract rfl rfl) ?_
        refine s_val rfl (v_assign rfl) ?_
        refine s_val rfl (v_assign rfl) ?_
        refine s_val rfl (v_assign rfl) ?_
        refine x_nil ?_
        refine n_then ?_
        refine x_seq ?_
        refine x_region ?_
        refine s_val rfl (v_move rfl) ?_
        refine s_val rfl (v_move rfl) ?_
        refine s_val rfl (v_eql rfl rfl) ?_
        refine s_val rfl (v_move rfl) ?_
        refine s_and rfl rfl rfl ?_ ?_
        · intro g11_4
          refine s_val rfl (v_move rfl) ?_
          refine s_yes rfl rfl ?_
          refine s_val rfl (v_move rfl) ?_
          refine s_yes rfl rfl ?_
          refine s_val rfl (v_eql_bool Tryz.underlying4 rfl rfl) ?_
          refine s_val rfl (v_pick_t rfl rfl) ?_
          refine s_val rfl (v_move rfl) ?_
          refine s_and rfl rfl rfl ?_ ?_
          · intro g11_9
            refine s_val rfl (v_move rfl) ?_
            refine s_yes rfl rfl ?_
            refine s_val rfl (v_move rfl) ?_
            refine s_yes rfl rfl ?_
            refine s_val rfl (v_eql rfl rfl) ?_
            refine s_val rfl (v_pick_t rfl rfl) ?_
            refine s_val rfl (v_assign rfl) ?_
            refine x_nil ?_
            refine n_then ?_
            refine x_ret ?_
            refine r_block ?_
            refine x_done (.inl rfl) (.cons (r_tmp rfl) .nil) ?_
            exact ⟨_, ⟨_, fr, pg, d, rfl, ⟨hF, rfl, h, hd⟩, rfl⟩, inferInstance⟩
          · intro g11_9
            refine s_no rfl rfl rfl rfl ?_
            refine s_no rfl rfl rfl rfl ?_
            refine s_val rfl (v_pick_f rfl rfl) ?_
            refine s_val rfl (v_assign rfl) ?_
            refine x_nil ?_
            refine n_then ?_
            refine x_ret ?_
            refine r_block ?_
            refine x_done (.inl rfl) (.cons (r_tmp rfl) .nil) ?_
            exact ⟨_, ⟨_, fr, pg, d, rfl, ⟨hF, rfl, h, hd⟩, rfl⟩, inferInstance⟩
        · intro g11_4
          refine s_no rfl rfl rfl rfl ?_
          refine s_no rfl rfl rfl rfl ?_
          refine s_val rfl (v_pick_f rfl rfl) ?_
          refine s_val rfl (v_move rfl) ?_
          refine s_no rfl rfl rfl rfl ?_
          refine s_no rfl rfl rfl rfl ?_
          refine s_no rfl rfl rfl rfl ?_
          refine s_val rfl (v_pick_f rfl rfl) ?_
          refine s_val rfl (v_assign rfl) ?_
          refine x_nil ?_
          refine n_then ?_
          refine x_ret ?_
          refine r_block ?_
          refine x_done (.inl rfl) (.cons (r_tmp rfl) .nil) ?_
          exact ⟨_, ⟨_, fr, pg, d, rfl, ⟨hF, rfl, h, hd⟩, rfl⟩, inferInstance⟩
      · intro c8
        refine x_seq ?_
        refine x_region ?_
        refine s_val rfl (v_eql rfl rfl) ?_
        refine s_val rfl (v_assign rfl) ?_
        refine x_nil ?_
        refine n_then ?_
        refine x_if rfl ?_ ?_
        · intro c12
          refine x_seq ?_
          refine x_region ?_
          refine s_val rfl (v_move rfl) ?_
          refine s_val rfl (v_move rfl) ?_
          refine s_do rfl (d_call4 Tryz.call35 rfl (qTake_spec W0 _ bq pv ps pm d fr pg h hF s hs.ok hs.r)) ?_
          rintro _ B_ ⟨a1, c1, rfl, hB_⟩
          obtain rfl := hB_.symm
          rw [t1, t2]
          refine s_val rfl (v_move rfl) ?_
          refine s_val rfl (v_extract rfl rfl) ?_
          refine s_val rfl (v_extract rfl rfl) ?_
          refine s_val rfl (v_extract rfl rfl) ?_
          refine s_val rfl (v_extract rfl rfl) ?_
          refine s_val rfl (v_assign rfl) ?_
          refine s_val rfl (v_assign rfl) ?_
          refine s_val rfl (v_assign rfl) ?_
          refine s_val rfl (v_assign rfl) ?_
          refine x_nil ?_
          refine n_then ?_
          refine x_seq ?_
          refine x_region ?_
          refine s_val rfl (v_move rfl) ?_
          refine s_val rfl (v_move rfl) ?_
          refine s_do rfl (d_call4 Tryz.call101 rfl (rqTake_spec W0 _ br qv qs qm d fr pg h hF s hs.ok hs.r)) ?_
          rintro _ B_ ⟨a2, c2, rfl, hB_⟩
          obtain rfl := hB_.symm
          rw [t1, t2]
          refine s_val rfl (v_move rfl) ?_
          refine s_val rfl (v_extract rfl rfl) ?_
          refine s_val rfl (v_extract rfl rfl) ?_
          refine s_val rfl (v_extract rfl rfl) ?_
          refine s_val rfl (v_extract rfl rfl) ?_
          refine s_val rfl (v_assign rfl) ?_
          refine s_val rfl (v_assign rfl) ?_
          refine s_val rfl (v_assign rfl) ?_
          refine s_val rfl (v_assign rfl) ?_
          refine x_nil ?_
          refine n_then ?_
          refine x_seq ?_
          refine x_region ?_
          refine s_val rfl (v_move rfl) ?_
          refine s_val rfl (v_move rfl) ?_
          refine s_val rfl (v_eql rfl rfl) ?_
          refine s_val rfl (v_move rfl) ?_
          refine s_and rfl rfl rfl ?_ ?_
          · intro g15_4
            refine s_val rfl (v_move rfl) ?_
            refine s_yes rfl rfl ?_
            refine s_val rfl (v_move rfl) ?_
            refine s_yes rfl rfl ?_
            refine s_do rfl (d_call Tryz.call102 rfl (descs23_nil W0 _ a1 a2 c1 c2)) ?_
            rintro _ B_ ⟨rfl, hB_⟩
            obtain rfl := hB_.symm
            refine s_val rfl (v_pick_t rfl rfl) ?_
            refine s_val rfl (v_move rfl) ?_
            refine s_and rfl rfl rfl ?_ ?_
            · intro g15_9
              refine s_val rfl (v_move rfl) ?_
              refine s_yes rfl rfl ?_
              refine s_val rfl (v_move rfl) ?_
              refine s_yes rfl rfl ?_
              refine s_val rfl (v_eql_bool Tryz.underlying4 rfl rfl) ?_
              refine s_val rfl (v_pick_t rfl rfl) ?_
              refine s_val rfl (v_move rfl) ?_
              refine s_and rfl rfl rfl ?_ ?_
              · intro g15_14
                refine s_val rfl (v_move rfl) ?_
                refine s_yes rfl rfl ?_
                refine s_val rfl (v_move rfl) ?_
                refine s_yes rfl rfl ?_
                refine s_val rfl (v_eql rfl rfl) ?_
                refine s_val rfl (v_pick_t rfl rfl) ?_
                refine s_val rfl (v_assign rfl) ?_
                refine x_nil ?_
                refine n_then ?_
                refine x_ret ?_
                refine r_block ?_
                refine x_done (.inl rfl) (.cons (r_tmp rfl) .nil) ?_
                exact ⟨_, ⟨_, fr, pg, d, rfl, ⟨hF, rfl, h, hd⟩, rfl⟩, inferInstance⟩
              · intro g15_14
                refine s_no rfl rfl rfl rfl ?_
                refine s_no rfl rfl rfl rfl ?_
                refine s_val rfl (v_pick_f rfl rfl) ?_
                refine s_val rfl (v_assign rfl) ?_
                refine x_nil ?_
                refine n_then ?_
                refine x_ret ?_
                refine r_block ?_
                refine x_done (.inl rfl) (.cons (r_tmp rfl) .nil) ?_
                exact ⟨_, ⟨_, fr, pg, d, rfl, ⟨hF, rfl, h, hd⟩, rfl⟩, inferInstance⟩
            · intro g15_9
              refine s_no rfl rfl rfl rfl ?_
              refine s_no rfl rfl rfl rfl ?_
              refine s_val rfl (v_pick_f rfl rfl) ?_
              refine s_val rfl (v_move rfl) ?_
              refine s_no rfl rfl rfl rfl ?_
              refine s_no rfl rfl rfl rfl ?_
              refine s_no rfl rfl rfl rfl ?_
              refine s_val rfl (v_pick_f rfl rfl) ?_
              refine s_val rfl (v_assign rfl) ?_
              refine x_nil ?_
              refine n_then ?_
              refine x_ret ?_
              refine r_block ?_
              refine x_done (.inl rfl) (.cons (r_tmp rfl) .nil) ?_
              exact ⟨_, ⟨_, fr, pg, d, rfl, ⟨hF, rfl, h, hd⟩, rfl⟩, inferInstance⟩
          · intro g15_4
            refine s_no rfl rfl rfl rfl ?_
            refine s_no rfl rfl rfl rfl ?_
            refine s_val rfl (v_pick_f rfl rfl) ?_
            refine s_val rfl (v_move rfl) ?_
            refine s_no rfl rfl rfl rfl ?_
            refine s_no rfl rfl rfl rfl ?_
            refine s_no rfl rfl rfl rfl ?_
            refine s_val rfl (v_pick_f rfl rfl) ?_
            refine s_val rfl (v_move rfl) ?_
            refine s_no rfl rfl rfl rfl ?_
            refine s_no rfl rfl rfl rfl ?_
            refine s_no rfl rfl rfl rfl ?_
            refine s_val rfl (v_pick_f rfl rfl) ?_
            refine s_val rfl (v_assign rfl) ?_
            refine x_nil ?_
            refine n_then ?_
            refine x_ret ?_
            refine r_block ?_
            refine x_done (.inl rfl) (.cons (r_tmp rfl) .nil) ?_
            exact ⟨_, ⟨_, fr, pg, d, rfl, ⟨hF, rfl, h, hd⟩, rfl⟩, inferInstance⟩
        · intro c12
          refine x_seq ?_
          refine x_region ?_
          refine s_val rfl (v_eql rfl rfl) ?_
          refine s_val rfl (v_assign rfl) ?_
          refine x_nil ?_
          refine n_then ?_
          refine x_if rfl ?_ ?_
          · intro c16
            refine x_seq ?_
            refine x_draw [(b1, 0, _)] 16 mixed rfl (sc_own sc_end) (fun hS => ?_)
            refine d_take 0 rfl rfl (by kernel_rfl) (by kernel_rfl) (by kernel_rfl) rfl hS (v_move rfl) ?_
            refine d_take 1 rfl rfl (by kernel_rfl) (by kernel_rfl) (by kernel_rfl) rfl hS (v_move rfl) ?_
            refine d_take 2 rfl rfl (by kernel_rfl) (by kernel_rfl) (by kernel_rfl) rfl hS (v_fieldAddr rfl Tryz.underlying67 rfl Tryz.sizeOf3 rfl (by first | exact Nat.zero_add _ | rfl)) ?_
            refine d_take 3 rfl rfl (by kernel_rfl) (by kernel_rfl) (by kernel_rfl) rfl hS (v_load Tryz.isAgg3 rfl (cell_sc0 (k := 0) rfl rfl)) ?_
            refine d_take 4 rfl rfl (by kernel_rfl) (by kernel_rfl) (by kernel_rfl) rfl hS (v_fieldAddr rfl Tryz.underlying67 rfl Tryz.sizeOf3 rfl (by first | exact Nat.zero_add _ | rfl)) ?_
            refine d_take 5 rfl rfl (by kernel_rfl) (by kernel_rfl) (by kernel_rfl) rfl hS (v_load Tryz.isAgg3 rfl (cell_sc0 (k := 0) rfl rfl)) ?_
            refine d_take 7 rfl rfl (by kernel_rfl) (by kernel_rfl) (by kernel_rfl) rfl hS (v_move rfl) ?_
            refine d_take 8 rfl rfl (by kernel_rfl) (by kernel_rfl) (by kernel_rfl) rfl hS (v_move rfl) ?_
            refine d_take 9 rfl rfl (by kernel_rfl) (by kernel_rfl) (by kernel_rfl) rfl hS (v_fieldAddr rfl Tryz.underlying67 rfl Tryz.sizeOf3 rfl (by first | exact Nat.zero_add _ | rfl)) ?_
            refine d_take 10 rfl rfl (by kernel_rfl) (by kernel_rfl) (by kernel_rfl) rfl hS (v_load Tryz.isAgg3 rfl (cell_sc0 (k := 0) rfl rfl)) ?_
            refine d_take 11 rfl rfl (by kernel_rfl) (by kernel_rfl) (by kernel_rfl) rfl hS (v_fieldAddr rfl Tryz.underlying67 rfl Tryz.sizeOf3 rfl (by first | exact Nat.zero_add _ | rfl)) ?_
            refine d_take 12 rfl rfl (by kernel_rfl) (by kernel_rfl) (by kernel_rfl) rfl hS (v_load Tryz.isAgg3 rfl (cell_sc0 (k := 0) rfl rfl)) ?_
            refine d_one 6 (by kernel_rfl) rfl rfl (d_call4 Tryz.call36 rfl (qDone_spec W0 _ bq pv ps pm d fr pg h hF hd s hs.ok t.a t.b)) rfl ?_; clear hS
            rintro _ B_ ⟨rfl, hB_⟩
            obtain rfl := hB_.symm
            rw [hs.dn]
            refine ⟨(sc_own sc_end), fun hS => ?_⟩
            refine d_one 13 (by kernel_rfl) rfl rfl (d_call4 Tryz.call103 rfl (rqDone_spec W0 _ br qv qs qm d fr pg h hF hd s hs.ok t.a t.b)) rfl ?_; clear hS
            rintro _ B_ ⟨rfl, hB_⟩
            obtain rfl := hB_.symm
            rw [hs.dn]
            refine ⟨(sc_own sc_end), fun hS => ?_⟩
            refine d_take 14 rfl rfl (by kernel_rfl) (by kernel_rfl) (by kernel_rfl) rfl hS (v_eql rfl rfl) ?_
            refine d_take 15 rfl rfl (by kernel_rfl) (by kernel_rfl) (by kernel_rfl) rfl hS (v_assign rfl) ?_
            refine d_done (by kernel_rfl) ?_; clear hS
            refine n_then ?_
            refine x_ret ?_
            refine r_block ?_
            refine x_done (.inl rfl) (.cons (r_tmp rfl) .nil) ?_
            exact ⟨_, ⟨_, fr, pg, d, rfl, ⟨hF, rfl, h, hd⟩, rfl⟩, inferInstance⟩
          · intro c16
            refine x_seq ?_
            refine x_region ?_
            refine s_val rfl (v_eql rfl rfl) ?_
            refine s_val rfl (v_assign rfl) ?_
            refine x_nil ?_
            refine n_then ?_
            refine x_if rfl ?_ ?_
            · intro c18
              refine x_seq ?_
              refine x_draw [(b1, 0, _)] 10 mixed rfl (sc_own sc_end) (fun hS => ?_)
              refine d_take 0 rfl rfl (by kernel_rfl) (by kernel_rfl) (by kernel_rfl) rfl hS (v_move rfl) ?_
              refine d_take 1 rfl rfl (by kernel_rfl) (by kernel_rfl) (by kernel_rfl) rfl hS (v_fieldAddr rfl Tryz.underlying67 rfl Tryz.sizeOf3 rfl (by first | exact Nat.zero_add _ | rfl)) ?_
              refine d_take 2 rfl rfl (by kernel_rfl) (by kernel_rfl) (by kernel_rfl) rfl hS (v_load Tryz.isAgg3 rfl (cell_sc0 (k := 0) rfl rfl)) ?_
              refine d_take 4 rfl rfl (by kernel_rfl) (by kernel_rfl) (by kernel_rfl) rfl hS (v_move rfl) ?_
              refine d_take 5 rfl rfl (by kernel_rfl) (by kernel_rfl) (by kernel_rfl) rfl hS (v_fieldAddr rfl Tryz.underlying67 rfl Tryz.sizeOf3 rfl (by first | exact Nat.zero_add _ | rfl)) ?_
              refine d_take 6 rfl rfl (by kernel_rfl) (by kernel_rfl) (by kernel_rfl) rfl hS (v_load Tryz.isAgg3 rfl (cell_sc0 (k := 0) rfl rfl)) ?_
              refine d_one 3 (by kernel_rfl) rfl rfl (d_call1 Tryz.call28 rfl (qBreak_spec W0 _ bq s t.a)) rfl ?_; clear hS
              rintro _ B_ ⟨rfl, hB_⟩
              obtain rfl := hB_.symm
              rw [hs.bk]
              refine ⟨(sc_own sc_end), fun hS => ?_⟩
              refine d_one 7 (by kernel_rfl) rfl rfl (d_call1 Tryz.call32 rfl (rqBreak_spec W0 _ br s t.a)) rfl ?_; clear hS
              rintro _ B_ ⟨rfl, hB_⟩
              obtain rfl := hB_.symm
              rw [hs.bk]
              refine ⟨(sc_own sc_end), fun hS => ?_⟩
              refine d_take 8 rfl rfl (by kernel_rfl) (by kernel_rfl) (by kernel_rfl) rfl hS (v_eql rfl rfl) ?_
              refine d_take 9 rfl rfl (by kernel_rfl) (by kernel_rfl) (by kernel_rfl) rfl hS (v_assign rfl) ?_
              refine d_done (by kernel_rfl) ?_; clear hS
              refine n_then ?_
              refine x_ret ?_
              refine r_block ?_
              refine x_done (.inl rfl) (.cons (r_tmp rfl) .nil) ?_
              exact ⟨_, ⟨_, fr, pg, d, rfl, ⟨hF, rfl, h, hd⟩, rfl⟩, inferInstance⟩
            · intro c18
              refine x_seq ?_
              refine x_region ?_
              refine s_val rfl (v_eql rfl rfl) ?_
              refine s_val rfl (v_assign rfl) ?_
              refine x_nil ?_
              refine n_then ?_
              refine x_if rfl ?_ ?_
              · intro c20
                refine x_seq ?_
                refine x_draw [(b1, 0, _), (qv, 0, _)] 14 mixed rfl (sc_own (sc_own sc_end)) (fun hS => ?_)
                refine d_take 0 rfl rfl (by kernel_rfl) (by kernel_rfl) (by kernel_rfl) rfl hS (v_move rfl) ?_
                refine d_take 2 rfl rfl (by kernel_rfl) (by kernel_rfl) (by kernel_rfl) rfl hS (v_fieldAddr rfl Tryz.underlying67 rfl Tryz.sizeOf3 rfl (by first | exact Nat.zero_add _ | rfl)) ?_
                refine d_take 3 rfl rfl (by kernel_rfl) (by kernel_rfl) (by kernel_rfl) rfl hS (v_load Tryz.isAgg3 rfl (by first | exact cell_sc0 (k := 0) rfl rfl | exact cell_sc0 (k := 1) rfl rfl)) ?_
                refine d_take 5 rfl rfl (by kernel_rfl) (by kernel_rfl) (by kernel_rfl) rfl hS (v_move rfl) ?_
                refine d_take 6 rfl rfl (by kernel_rfl) (by kernel_rfl) (by kernel_rfl) rfl hS (v_nilCheck rfl) ?_
                refine d_take 7 rfl rfl (by kernel_rfl) (by kernel_rfl) (by kernel_rfl) rfl hS (v_fieldAddr rfl Tryz.underlying119 rfl Tryz.sizeOf116 rfl (by first | exact Nat.zero_add _ | rfl)) ?_
                refine d_take 8 rfl rfl (by kernel_rfl) (by kernel_rfl) (by kernel_rfl) rfl hS (v_load Tryz.isAgg116 rfl (by first | exact cell_sc0 (k := 0) rfl rfl | exact cell_sc0 (k := 1) rfl rfl)) ?_
                refine d_take 9 rfl rfl (by kernel_rfl) (by kernel_rfl) (by kernel_rfl) rfl hS (v_fieldAddr rfl Tryz.underlying67 rfl Tryz.sizeOf3 rfl (by first | exact Nat.zero_add _ | rfl)) ?_
                refine d_take 10 rfl rfl (by kernel_rfl) (by kernel_rfl) (by kernel_rfl) rfl hS (v_load Tryz.isAgg3 rfl (by first | exact cell_sc0 (k := 0) rfl rfl | exact cell_sc0 (k := 1) rfl rfl)) ?_
                refine d_one 1 (by kernel_rfl) rfl rfl (d_call1 Tryz.call104 rfl (viMap_spec W0 _ pv ps pm d)) rfl ?_; clear hS
                rintro _ B_ ⟨rfl, hB_⟩
                obtain rfl := hB_.symm
                refine ⟨(sc_own (sc_own sc_end)), fun hS => ?_⟩
                refine d_one 4 (by kernel_rfl) rfl rfl (d_call1 Tryz.call105 rfl (gmDropA_spec W0 _ pm pg h t.a)) rfl ?_; clear hS
                rintro _ B_ ⟨rfl, hB_⟩
                obtain rfl := hB_.symm
                refine ⟨(sc_own (sc_own sc_end)), fun hS => ?_⟩
                refine d_one 11 (by kernel_rfl) rfl rfl (d_call1 Tryz.call106 rfl (rgDrop_spec W0 _ qm pg h t.a)) rfl ?_; clear hS
                rintro _ B_ ⟨rfl, hB_⟩
                obtain rfl := hB_.symm
                refine ⟨(sc_own (sc_own sc_end)), fun hS => ?_⟩
                refine d_take 12 rfl rfl (by kernel_rfl) (by kernel_rfl) (by kernel_rfl) rfl hS (v_eql rfl rfl) ?_
                refine d_take 13 rfl rfl (by kernel_rfl) (by kernel_rfl) (by kernel_rfl) rfl hS (v_assign rfl) ?_
                refine d_done (by kernel_rfl) ?_; clear hS
                refine n_then ?_
                refine x_ret ?_
                refine r_block ?_
                refine x_done (.inl rfl) (.cons (r_tmp rfl) .nil) ?_
                exact ⟨_, ⟨_, fr, drP pg t.a, d, rfl, ⟨hF, rfl, drP_ok h, hd⟩, rfl⟩, inferInstance⟩
              · intro c20
                refine x_seq ?_
                refine x_draw [(b1, 0, _)] 18 mixed rfl (sc_own sc_end) (fun hS => ?_)
                refine d_take 0 rfl rfl (by kernel_rfl) (by kernel_rfl) (by kernel_rfl) rfl hS (v_move rfl) ?_
                refine d_take 1 rfl rfl (by kernel_rfl) (by kernel_rfl) (by kernel_rfl) rfl hS (v_fieldAddr rfl Tryz.underlying67 rfl Tryz.sizeOf3 rfl (by first | exact Nat.zero_add _ | rfl)) ?_
                refine d_take 2 rfl rfl (by kernel_rfl) (by kernel_rfl) (by kernel_rfl) rfl hS (v_load Tryz.isAgg3 rfl (cell_sc0 (k := 0) rfl rfl)) ?_
                refine d_take 3 rfl rfl (by kernel_rfl) (by kernel_rfl) (by kernel_rfl) rfl hS (v_conv Tryz.underlying3 Tryz.underlying53 rfl (wrap_u32N t.a)) ?_
                refine d_take 4 rfl rfl (by kernel_rfl) (by kernel_rfl) (by kernel_rfl) rfl hS (v_fieldAddr rfl Tryz.underlying67 rfl Tryz.sizeOf3 rfl (by first | exact Nat.zero_add _ | rfl)) ?_
                refine d_take 5 rfl rfl (by kernel_rfl) (by kernel_rfl) (by kernel_rfl) rfl hS (v_load Tryz.isAgg3 rfl (cell_sc0 (k := 0) rfl rfl)) ?_
                refine d_take 6 rfl rfl (by kernel_rfl) (by kernel_rfl) (by kernel_rfl) rfl hS (v_conv Tryz.underlying3 Tryz.underlying53 rfl (wrap_u32N t.b)) ?_
                refine d_take 8 rfl rfl (by kernel_rfl) (by kernel_rfl) (by kernel_rfl) rfl hS (v_move rfl) ?_
                refine d_take 9 rfl rfl (by kernel_rfl) (by kernel_rfl) (by kernel_rfl) rfl hS (v_fieldAddr rfl Tryz.underlying67 rfl Tryz.sizeOf3 rfl (by first | exact Nat.zero_add _ | rfl)) ?_
                refine d_take 10 rfl rfl (by kernel_rfl) (by kernel_rfl) (by kernel_rfl) rfl hS (v_load Tryz.isAgg3 rfl (cell_sc0 (k := 0) rfl rfl)) ?_
                refine d_take 11 rfl rfl (by kernel_rfl) (by kernel_rfl) (by kernel_rfl) rfl hS (v_conv Tryz.underlying3 Tryz.underlying53 rfl (wrap_u32N t.a)) ?_
                refine d_take 12 rfl rfl (by kernel_rfl) (by kernel_rfl) (by kernel_rfl) rfl hS (v_fieldAddr rfl Tryz.underlying67 rfl Tryz.sizeOf3 rfl (by first | exact Nat.zero_add _ | rfl)) ?_
                refine d_take 13 rfl rfl (by kernel_rfl) (by kernel_rfl) (by kernel_rfl) rfl hS (v_load Tryz.isAgg3 rfl (cell_sc0 (k := 0) rfl rfl)) ?_
                refine d_take 14 rfl rfl (by kernel_rfl) (by kernel_rfl) (by kernel_rfl) rfl hS (v_conv Tryz.underlying3 Tryz.underlying53 rfl (wrap_u32N t.b)) ?_
                refine d_one 7 (by kernel_rfl) rfl rfl (d_call3 Tryz.call48 rfl (viSave_spec W0 _ pv ps pm d fr pg h hF hd (u32N t.a) (u32N_lt _) 4 (u32N t.b) (u32N_lt _))) rfl ?_; clear hS
                rintro _ B_ ⟨rfl, hB_⟩
                obtain rfl := hB_.symm
                refine ⟨(sc_own sc_end), fun hS => ?_⟩
                refine d_one 15 (by kernel_rfl) rfl rfl (d_call3 Tryz.call58 rfl (rvSave_spec W0 _ qv qs qm d fr pg h hF (u32N t.a) (u32N_lt _) 4 (u32N t.b) (u32N_lt _))) rfl ?_; clear hS
                rintro _ B_ ⟨rfl, hB_⟩
                obtain rfl := hB_.symm
                refine ⟨(sc_own sc_end), fun hS => ?_⟩
                refine d_take 16 rfl rfl (by kernel_rfl) (by kernel_rfl) (by kernel_rfl) rfl hS (v_eql rfl rfl) ?_
                refine d_take 17 rfl rfl (by kernel_rfl) (by kernel_rfl) (by kernel_rfl) rfl hS (v_assign rfl) ?_
                refine d_done (by kernel_rfl) ?_; clear hS
                refine n_then ?_
                refine x_ret ?_
                refine r_block ?_
                refine x_done (.inl rfl) (.cons (r_tmp rfl) .nil) ?_
                exact ⟨_, ⟨_, vsvF fr pg (u32N t.a) 4 (u32N t.b), pg, vsvD fr pg (u32N t.a) 4 d, rfl, ⟨(vsvF_ok hF).1, (vsvF_ok hF).2, h, vsvD_lt hd⟩, rfl⟩, inferInstance⟩
theorem lies_ok : Rg3.ok ⟨0, 128, 192, 4⟩ := ⟨by decide, by decide, by decide⟩
theorem fitL : fitB 8 (pg23 8) ⟨0, 128, 192, 4⟩ = true := by decide +kernel
theorem QueueBroken_walk (W0 : World) (al : Option Addr) (cl : Nat) (ds : List Dsc) (hds : SlB W0 al 4 dsV ds) (hok : ∀ d ∈ ds, d.ok) (hl : ds.length < 9223372036854775808) (wrong : Int) (aa : Option Addr) (ca : Nat) (acts : List Act23) (hac : SlB W0 aa 7 act23V acts) (hacl : acts.length < 9223372036854775808) :
    Spec Tryz.prog W0 4 [.slice al ds.length cl, .int .i64 wrong, .slice aa acts.length ca] [] (fun v B => v = .bool true ∧ B = []) := by
  have hP0 := pg23_ok 8
  obtain ⟨hF0, hl0, hd0⟩ := mk23_ok ds
  have hfit : fitB (mk23 ds).1.length (pg23 8) ⟨0, 128, 192, 4⟩ = true := by rw [hl0]; exact fitL
  have hB := bkB_iff (s := lq 0) (w := wrong)
  refine spec_body Tryz.func4 Tryz.ntmps4 rfl rfl ?_
  refine x_seq ?_
  refine x_region ?_
  refine s_val rfl (v_assign rfl) ?_
  refine x_nil ?_
  refine n_then ?_
  refine x_seq ?_
  refine x_region ?_
  refine s_val rfl (v_move rfl) ?_
  refine s_do rfl (d_call Tryz.call24 rfl (made23_spec W0 _ al cl ds (sla_base hds) hok hl)) ?_
  rintro _ B_ ⟨pv, ps, pm, qv, qs, qm, rfl, hB_⟩
  obtain rfl := hB_.symm
  generalize (mk23 ds).1 = fr at hF0 hl0 hfit
  generalize (mk23 ds).2 = d0 at hd0
  generalize pg23 8 = pg at hP0 hfit
  refine s_val rfl (v_move rfl) ?_
  refine s_val rfl (v_extract rfl rfl) ?_
  refine s_val rfl (v_extract rfl rfl) ?_
  refine s_val rfl (v_assign rfl) ?_
  refine s_val rfl (v_assign rfl) ?_
  refine x_nil ?_
  refine n_then ?_
  refine x_seq ?_
  refine x_region ?_
  refine s_do rfl (d_call Tryz.call25 rfl (qNew_spec W0 _)) ?_
  rintro _ B_ ⟨bq, rfl, hB_⟩
  obtain rfl := hB_.symm
  refine s_val rfl (v_assign rfl) ?_
  refine x_nil ?_
  refine n_then ?_
  refine x_seq ?_
  refine x_seq ?_
  refine x_region ?_
  refine s_val rfl (v_move rfl) ?_
  refine s_val rfl (v_eql_ptr_nil Tryz.underlying45 rfl rfl) ?_
  refine s_val rfl (v_move rfl) ?_
  refine s_or rfl rfl rfl ?_ ?_
  · intro g3_3
    cases g3_3
  · intro g3_3
    refine s_val rfl (v_move rfl) ?_
    refine s_yes rfl rfl ?_
    refine s_val rfl (v_eql_ptr_nil Tryz.underlying46 rfl rfl) ?_
    refine s_val rfl (v_pick_f rfl rfl) ?_
    refine s_val rfl (v_move rfl) ?_
    refine s_or rfl rfl rfl ?_ ?_
    · intro g3_7
      cases g3_7
    · intro g3_7
      refine s_val rfl (v_move rfl) ?_
      refine s_yes rfl rfl ?_
      refine s_val rfl (v_move rfl) ?_
      refine s_yes rfl rfl ?_
      refine s_do rfl (d_call Tryz.call27 rfl (lies_spec W0 _)) ?_
      rintro _ B_ ⟨rfl, hB_⟩
      obtain rfl := hB_.symm
      refine s_yes rfl rfl ?_
      refine s_do rfl (d_call4 Tryz.call26 rfl (qLay_spec W0 _ bq pv ps pm d0 fr pg hP0 qs0 ⟨0, 128, 192, 4⟩ ⟨by decide, by decide, by decide⟩ hfit)) ?_
      rintro _ B_ ⟨rfl, hB_⟩
      obtain rfl := hB_.symm
      refine s_yes rfl rfl ?_
      refine s_val rfl (v_neq rfl rfl) ?_
      refine s_val rfl (v_pick_f rfl rfl) ?_
      refine x_nil ?_
      refine n_then ?_
      refine x_if rfl ?_ ?_
      · intro c3
        first | exact absurd rfl c3 | exact absurd c3 (by simp)
      · intro c3
        refine x_skip ?_
        refine n_then ?_
        refine x_seq ?_
        refine x_seq ?_
        refine x_region ?_
        refine s_val rfl (v_move rfl) ?_
        refine s_val rfl (v_move rfl) ?_
        refine s_do rfl (d_call1 Tryz.call28 rfl (qBreak_spec W0 _ bq (lq 0) wrong)) ?_
        rintro _ B_ ⟨rfl, hB_⟩
        obtain rfl := hB_.symm
        refine s_val rfl (v_neq rfl rfl) ?_
        refine x_nil ?_
        refine n_then ?_
        refine x_if rfl ?_ ?_
        · intro c5
          have hno : ¬ bkB (lq 0) wrong = true := fun q => by rw [if_pos q] at c5; exact absurd rfl c5
          have hst : bkS (lq 0) wrong = lq 0 := by rw [bkS, if_neg hno]
          rw [hB] at hno
          rw [hst]
          refine x_seq ?_
          refine x_region ?_
          refine s_val rfl (v_move rfl) ?_
          refine s_val rfl (v_lss rfl rfl) ?_
          refine s_val rfl (v_move rfl) ?_
          refine s_or rfl rfl rfl ?_ ?_
          · intro g6_3
            refine s_no rfl rfl rfl rfl ?_
            refine s_val rfl (v_pick_t rfl rfl) ?_
            refine s_val rfl (v_move rfl) ?_
            refine s_yes rfl rfl ?_
            refine s_val rfl (v_move rfl) ?_
            refine s_yes rfl rfl ?_
            refine s_do rfl (d_call1 Tryz.call29 rfl (qState_spec W0 _ bq (lq 0))) ?_
            rintro _ B_ ⟨rfl, hB_⟩
            obtain rfl := hB_.symm
            refine s_yes rfl rfl ?_
            refine s_do rfl (d_call Tryz.call27 rfl (lies_spec W0 _)) ?_
            rintro _ B_ ⟨rfl, hB_⟩
            obtain rfl := hB_.symm
            refine s_yes rfl rfl ?_
            refine s_val rfl (v_build Tryz.underlying59 Tryz.zeroValue59 (sized_cons Tryz.sizeOf55 (sized_cons Tryz.sizeOf4 (sized_cons Tryz.sizeOf3 (sized_cons Tryz.sizeOf3 (sized_cons Tryz.sizeOf3 sized_nil))))) (fil_agg rfl Tryz.sizeOf55 rfl rfl (Nat.le_of_ble_eq_true rfl) SetRL.eq (fil_scal rfl Tryz.sizeOf4 rfl rfl (Nat.le_of_ble_eq_true rfl) SetL.eq fil_nil))) ?_
            refine s_yes rfl rfl ?_
            refine s_val rfl (v_eql_agg Tryz.eqGuardType59 rfl rfl (q_struct Tryz.underlying59 Tryz.stoodInHeld59 (qf_gen rfl (part_agg Tryz.isAgg55 Tryz.sizeOf55 TakeL.eq) (part_agg Tryz.isAgg55 Tryz.sizeOf55 TakeL.eq) (q_struct Tryz.underlying55 Tryz.stoodInHeld55 (qf_scal rfl Tryz.isAgg53 rfl rfl (q_int Tryz.underlying53) (qf_scal rfl Tryz.isAgg53 rfl rfl (q_int Tryz.underlying53) (qf_scal rfl Tryz.isAgg53 rfl rfl (q_int Tryz.underlying53) (qf_scal rfl Tryz.isAgg3 rfl rfl (q_int Tryz.underlying3) qf_nil))))) (qf_scal rfl Tryz.isAgg4 rfl rfl (q_bool Tryz.underlying4) (qf_scal rfl Tryz.isAgg3 rfl rfl (q_int Tryz.underlying3) (qf_scal rfl Tryz.isAgg3 rfl rfl (q_int Tryz.underlying3) (qf_scal rfl Tryz.isAgg3 rfl rfl (q_int Tryz.underlying3) qf_nil))))))) ?_
            refine s_val rfl (v_pick_t rfl rfl) ?_
            refine s_val rfl (v_move rfl) ?_
            refine s_and rfl rfl rfl ?_ ?_
            · intro g6_14
              refine s_do rfl (d_call Tryz.call30 rfl (awake23_spec W0 _)) ?_
              rintro _ B_ ⟨rfl, hB_⟩
              obtain rfl := hB_.symm
              refine s_val rfl (v_pick_t rfl rfl) ?_
              refine s_val rfl (v_assign rfl) ?_
              refine x_nil ?_
              refine n_then ?_
              refine x_ret ?_
              refine r_then ?_
              refine x_done (.inl rfl) (.cons (r_tmp rfl) .nil) ?_
              exact ⟨_, ⟨rfl, rfl⟩, inferInstance⟩
            · intro g6_14
              first | exact absurd rfl g6_14 | exact absurd (by simp) g6_14
          · intro g6_3
            refine s_val rfl (v_move rfl) ?_
            refine s_yes rfl rfl ?_
            refine s_val rfl (v_gtr rfl rfl) ?_
            refine s_val rfl (v_pick_f rfl rfl) ?_
            refine s_val rfl (v_move rfl) ?_
            refine s_and rfl rfl rfl ?_ ?_
            · intro g6_7
              refine s_val rfl (v_move rfl) ?_
              refine s_yes rfl rfl ?_
              refine s_do rfl (d_call1 Tryz.call29 rfl (qState_spec W0 _ bq (lq 0))) ?_
              rintro _ B_ ⟨rfl, hB_⟩
              obtain rfl := hB_.symm
              refine s_yes rfl rfl ?_
              refine s_do rfl (d_call Tryz.call27 rfl (lies_spec W0 _)) ?_
              rintro _ B_ ⟨rfl, hB_⟩
              obtain rfl := hB_.symm
              refine s_yes rfl rfl ?_
              refine s_val rfl (v_build Tryz.underlying59 Tryz.zeroValue59 (sized_cons Tryz.sizeOf55 (sized_cons Tryz.sizeOf4 (sized_cons Tryz.sizeOf3 (sized_cons Tryz.sizeOf3 (sized_cons Tryz.sizeOf3 sized_nil))))) (fil_agg rfl Tryz.sizeOf55 rfl rfl (Nat.le_of_ble_eq_true rfl) SetRL.eq (fil_scal rfl Tryz.sizeOf4 rfl rfl (Nat.le_of_ble_eq_true rfl) SetL.eq fil_nil))) ?_
              refine s_yes rfl rfl ?_
              refine s_val rfl (v_eql_agg Tryz.eqGuardType59 rfl rfl (q_struct Tryz.underlying59 Tryz.stoodInHeld59 (qf_gen rfl (part_agg Tryz.isAgg55 Tryz.sizeOf55 TakeL.eq) (part_agg Tryz.isAgg55 Tryz.sizeOf55 TakeL.eq) (q_struct Tryz.underlying55 Tryz.stoodInHeld55 (qf_scal rfl Tryz.isAgg53 rfl rfl (q_int Tryz.underlying53) (qf_scal rfl Tryz.isAgg53 rfl rfl (q_int Tryz.underlying53) (qf_scal rfl Tryz.isAgg53 rfl rfl (q_int Tryz.underlying53) (qf_scal rfl Tryz.isAgg3 rfl rfl (q_int Tryz.underlying3) qf_nil))))) (qf_scal rfl Tryz.isAgg4 rfl rfl (q_bool Tryz.underlying4) (qf_scal rfl Tryz.isAgg3 rfl rfl (q_int Tryz.underlying3) (qf_scal rfl Tryz.isAgg3 rfl rfl (q_int Tryz.underlying3) (qf_scal rfl Tryz.isAgg3 rfl rfl (q_int Tryz.underlying3) qf_nil))))))) ?_
              refine s_val rfl (v_pick_t rfl rfl) ?_
              refine s_val rfl (v_move rfl) ?_
              refine s_and rfl rfl rfl ?_ ?_
              · intro g6_14
                refine s_do rfl (d_call Tryz.call30 rfl (awake23_spec W0 _)) ?_
                rintro _ B_ ⟨rfl, hB_⟩
                obtain rfl := hB_.symm
                refine s_val rfl (v_pick_t rfl rfl) ?_
                refine s_val rfl (v_assign rfl) ?_
                refine x_nil ?_
                refine n_then ?_
                refine x_ret ?_
                refine r_then ?_
                refine x_done (.inl rfl) (.cons (r_tmp rfl) .nil) ?_
                exact ⟨_, ⟨rfl, rfl⟩, inferInstance⟩
              · intro g6_14
                first | exact absurd rfl g6_14 | exact absurd (by simp) g6_14
            · intro g6_7
              (exfalso; exact hno ⟨by omega, rfl⟩)
        · intro c5
          have hyes : bkB (lq 0) wrong = true := by
            rcases Bool.eq_false_or_eq_true (bkB (lq 0) wrong) with q | q
            · exact q
            · rw [if_neg (by rw [q]; decide)] at c5; exact absurd (by decide) c5
          have hw := (hB.1 hyes).1
          obtain ⟨s, hs⟩ : ∃ s : QS, s = ⟨⟨0, 128, 192, 4⟩, true, wrong, 0, 0⟩ := ⟨_, rfl⟩
          have hst : bkS (lq 0) wrong = s := by rw [bkS, if_pos hyes, if_pos rfl, hs]
          have hsb : s.br = wrong := by rw [hs]
          have hbk : Brk s := ⟨by rw [hs]; exact ⟨(lq_ok (by decide : (0 : Nat) < 65536)).n, (lq_ok (by decide : (0 : Nat) < 65536)).av, (lq_ok (by decide : (0 : Nat) < 65536)).us, (by show (0 : Nat) < 65536; decide), (by show (0 : Nat) < 65536; decide)⟩, by rw [hs]; exact lies_ok, by rw [hsb]; omega⟩
          rw [hst]
          refine x_skip ?_
          refine n_then ?_
          refine x_seq ?_
          refine x_region ?_
          refine s_val rfl (v_build Tryz.underlying63 Tryz.zeroValue63 (sized_cons Tryz.sizeOf59 sized_nil) fil_nil) ?_
          refine s_do rfl (d_boxA rfl) ?_
          rintro _ _ ⟨brq, rfl, rfl⟩
          refine s_val rfl (v_assign rfl) ?_
          refine x_nil ?_
          refine n_then ?_
          refine x_seq ?_
          refine run_pt (b := brq) (o' := rqO qs0) rfl ?_
          refine x_region ?_
          refine s_val rfl (v_move rfl) ?_
          refine s_val rfl (v_move rfl) ?_
          refine s_do rfl (d_call Tryz.call27 rfl (lies_spec W0 _)) ?_
          rintro _ B_ ⟨rfl, hB_⟩
          obtain rfl := hB_.symm
          refine s_do rfl (d_call4 Tryz.call31 rfl (rqLay_spec W0 _ brq qv qs qm d0 fr pg hP0 qs0 ⟨0, 128, 192, 4⟩ ⟨by decide, by decide, by decide⟩ hfit)) ?_
          rintro _ B_ ⟨rfl, hB_⟩
          obtain rfl := hB_.symm
          refine x_nil ?_
          refine n_then ?_
          refine x_seq ?_
          refine x_region ?_
          refine s_val rfl (v_move rfl) ?_
          refine s_val rfl (v_move rfl) ?_
          refine s_do rfl (d_call1 Tryz.call32 rfl (rqBreak_spec W0 _ brq (lq 0) wrong)) ?_
          rintro _ B_ ⟨rfl, hB_⟩
          obtain rfl := hB_.symm
          rw [hst]
          refine x_nil ?_
          refine n_then ?_
          refine x_seq ?_
          refine x_region ?_
          refine s_val rfl (v_move rfl) ?_
          refine s_do rfl (d_call1 Tryz.call29 rfl (qState_spec W0 _ bq s)) ?_
          rintro _ B_ ⟨rfl, hB_⟩
          obtain rfl := hB_.symm
          refine s_do rfl (d_allocA Tryz.zeroValue59) ?_
          rintro _ _ ⟨bo, rfl, rfl⟩
          refine s_do0 (d_storeAll Tryz.sizeOf59 rfl rfl rfl rfl rfl) ?_
          rintro _ _ rfl
          refine x_nil ?_
          refine n_then ?_
          refine x_seq ?_
          refine x_seq ?_
          refine x_region ?_
          refine s_val rfl (v_assign rfl) ?_
          refine x_nil ?_
          refine n_then ?_
          refine x_block ?_
          refine x_loop (fun X : Nat × List Frm × List Pl × Nat => X.1 ≤ min acts.length 30 ∧ Frs X.2.1 ∧ Pgs X.2.2.1 ∧ X.2.2.2 < 4096) (fun X => [(1, .int .i64 wrong), (2, .slice aa acts.length ca), (7, .pointer (some ⟨pv, 0, none⟩)), (8, .pointer (some ⟨qv, 0, none⟩)), (9, .pointer (some ⟨bq, 0, none⟩)), (10, .pointer (some ⟨brq, 0, none⟩)), (11, .pointer (some ⟨bo, 0, none⟩)), (12, .int .i64 X.1)]) (fun X => pt bq (qO true s) :: pt brq (rqO s) :: pt bo (cob (qsV s) 59) :: prH pv ps pm qv qs qm X.2.2.2 X.2.1 X.2.2.1 []) (fun X => 30 - X.1) (0, fr, pg, d0) ?_ ?_ ?_ ?_
          · exact ⟨Nat.zero_le _, hF0, hP0, hd0⟩
          · repeat (first | exact sub_nil | refine sub_cons rfl ?_)
          · exact inferInstance
          · intro ⟨i, f1, p1, d1⟩ ⟨hi, hF1, hP1, hd1⟩
            dsimp only at hi hF1 hP1 hd1 ⊢
            refine x_seq ?_
            refine x_seq ?_
            refine x_region ?_
            refine s_val rfl (v_move rfl) ?_
            refine s_val rfl (v_move rfl) ?_
            refine s_val rfl (v_len_slice Tryz.underlying44 rfl) ?_
            refine s_val rfl (v_lss rfl rfl) ?_
            refine s_val rfl (v_move rfl) ?_
            refine s_and rfl rfl rfl ?_ ?_
            · intro g12_5
              refine s_val rfl (v_move rfl) ?_
              refine s_yes rfl rfl ?_
              refine s_val rfl (v_lss rfl rfl) ?_
              refine s_val rfl (v_pick_t rfl rfl) ?_
              refine x_nil ?_
              refine n_then ?_
              refine x_if rfl ?_ ?_
              · intro c12
                have hi1 : i < acts.length := by omega
                obtain ⟨g, o, rfl, hc⟩ := (sla_base (A := []) hac).at_ hi1
                generalize acts[i] = t at hc
                refine x_skip ?_
                refine n_then ?_
                refine x_seq ?_
                refine x_block ?_
                refine x_cut (fun Z : List Frm × List Pl × Nat => Frs Z.1 ∧ Pgs Z.2.1 ∧ Z.2.2 < 4096) (fun Z => [(1, .int .i64 wrong), (2, .slice (some ⟨g, o, none⟩) acts.length ca), (7, .pointer (some ⟨pv, 0, none⟩)), (8, .pointer (some ⟨qv, 0, none⟩)), (9, .pointer (some ⟨bq, 0, none⟩)), (10, .pointer (some ⟨brq, 0, none⟩)), (11, .pointer (some ⟨bo, 0, none⟩)), (12, .int .i64 i)]) (fun Z => pt bq (qO true s) :: pt brq (rqO s) :: pt bo (cob (qsV s) 59) :: prH pv ps pm qv qs qm Z.2.2 Z.1 Z.2.1 []) ?_ ?_
                · skip
                  refine x_seq ?_
                  refine x_region ?_
                  refine s_val rfl (v_move rfl) ?_
                  refine s_val rfl (v_move rfl) ?_
                  refine s_val rfl (v_idx Tryz.underlying44 Tryz.sizeOf67 rfl rfl rfl hi1 (by first | exact Nat.zero_add _ | rfl)) ?_
                  refine s_val rfl (v_fieldAddr rfl Tryz.underlying67 rfl Tryz.sizeOf3 rfl (by first | exact Nat.zero_add _ | rfl)) ?_
                  refine s_val rfl (v_load Tryz.isAgg3 rfl (Cells.weak hc 0 _ rfl)) ?_
                  refine s_val rfl (v_gtr rfl rfl) ?_
                  refine x_nil ?_
                  refine n_then ?_
                  refine x_if rfl ?_ ?_
                  · intro c14
                    refine x_region ?_
                    refine s_val rfl (v_move rfl) ?_
                    refine s_val rfl (v_move rfl) ?_
                    refine s_val rfl (v_move rfl) ?_
                    refine s_val rfl (v_move rfl) ?_
                    refine s_val rfl (v_move rfl) ?_
                    refine s_val rfl (v_move rfl) ?_
                    refine s_val rfl (v_idx Tryz.underlying44 Tryz.sizeOf67 rfl rfl rfl hi1 (by first | exact Nat.zero_add _ | rfl)) ?_
                    refine s_val rfl (v_loadAgg Tryz.isAgg67 Tryz.sizeOf67 rfl hc.weak rfl) ?_
                    refine s_do rfl (d_call8 Tryz.call33 rfl (do23_spec W0 _ bq brq pv ps pm qv qs qm d1 f1 p1 hP1 hF1 hd1 s hbk t (by omega))) ?_
                    rintro _ B_ ⟨b, f2, p2, d2, rfl, ⟨hF2, _, hP2, hd2⟩, hB_⟩
                    obtain rfl := hB_.symm
                    refine x_nil ?_
                    refine n_then ?_
                    refine mid_intro (f2, p2, d2) ?_ ?_ ?_
                    · exact ⟨hF2, hP2, hd2⟩
                    · repeat (first | exact sub_nil | refine sub_cons rfl ?_)
                    · exact inferInstance
                  · intro c14
                    refine x_skip ?_
                    refine n_then ?_
                    refine mid_intro (f1, p1, d1) ?_ ?_ ?_
                    · exact ⟨hF1, hP1, hd1⟩
                    · repeat (first | exact sub_nil | refine sub_cons rfl ?_)
                    · exact inferInstance
                · intro ⟨f3, p3, d3⟩ ⟨hF3, hP3, hd3⟩
                  dsimp only at hF3 hP3 hd3 ⊢
                  obtain ⟨n1, n2⟩ := hbk.nx f3 p3
                  obtain ⟨t1, t2⟩ := hbk.tk f3 p3
                  refine x_seq ?_
                  refine x_region ?_
                  refine s_val rfl (v_move rfl) ?_
                  refine s_val rfl (v_move rfl) ?_
                  refine s_do rfl (d_call4 Tryz.call34 rfl (qNext_spec W0 _ bq pv ps pm d3 f3 p3 hP3 hF3 s hbk.ok)) ?_
                  rintro _ B_ ⟨rfl, hB_⟩
                  obtain rfl := hB_.symm
                  rw [n1, n2]
                  refine s_val rfl (v_move rfl) ?_
                  refine s_val rfl (v_extract rfl rfl) ?_
                  refine s_val rfl (v_extract rfl rfl) ?_
                  refine s_val rfl (v_extract rfl rfl) ?_
                  refine s_val rfl (v_assign rfl) ?_
                  refine s_val rfl (v_assign rfl) ?_
                  refine s_val rfl (v_assign rfl) ?_
                  refine x_nil ?_
                  refine n_then ?_
                  refine x_seq ?_
                  refine x_region ?_
                  refine s_val rfl (v_move rfl) ?_
                  refine s_val rfl (v_move rfl) ?_
                  refine s_do rfl (d_call4 Tryz.call35 rfl (qTake_spec W0 _ bq pv ps pm d3 f3 p3 hP3 hF3 s hbk.ok hbk.r)) ?_
                  rintro _ B_ ⟨a1, c1, rfl, hB_⟩
                  obtain rfl := hB_.symm
                  rw [t1, t2]
                  refine s_val rfl (v_move rfl) ?_
                  refine s_val rfl (v_extract rfl rfl) ?_
                  refine s_val rfl (v_extract rfl rfl) ?_
                  refine s_val rfl (v_extract rfl rfl) ?_
                  refine s_val rfl (v_extract rfl rfl) ?_
                  refine s_val rfl (v_assign rfl) ?_
                  refine s_val rfl (v_assign rfl) ?_
                  refine s_val rfl (v_assign rfl) ?_
                  refine s_val rfl (v_assign rfl) ?_
                  refine x_nil ?_
                  refine n_then ?_
                  refine x_seq ?_
                  refine x_draw [(bo, 0, _)] 32 mixed rfl (sc_own sc_end) (fun hS => ?_)
                  refine d_take 0 rfl rfl (by kernel_rfl) (by kernel_rfl) (by kernel_rfl) rfl hS (v_move rfl) ?_
                  refine d_take 1 rfl rfl (by kernel_rfl) (by kernel_rfl) (by kernel_rfl) rfl hS (v_move rfl) ?_
                  refine x_split (t := 111) rfl ?_ ?_
                  · intro g18_2
                    cases g18_2
                  · intro g18_2
                    refine d_take 2 rfl rfl (by kernel_rfl) (by kernel_rfl) (by kernel_rfl) rfl hS (v_move rfl) ?_
                    refine d_take 3 rfl rfl (by kernel_rfl) (by kernel_rfl) (by kernel_rfl) rfl hS (v_pick_f rfl rfl) ?_
                    refine d_take 4 rfl rfl (by kernel_rfl) (by kernel_rfl) (by kernel_rfl) rfl hS (v_move rfl) ?_
                    refine x_split (t := 114) rfl ?_ ?_
                    · intro g18_5
                      cases g18_5
                    · intro g18_5
                      refine d_take 5 rfl rfl (by kernel_rfl) (by kernel_rfl) (by kernel_rfl) rfl hS (v_move rfl) ?_
                      refine d_take 6 rfl rfl (by kernel_rfl) (by kernel_rfl) (by kernel_rfl) rfl hS (v_len_slice Tryz.underlying43 rfl) ?_
                      refine d_take 7 rfl rfl (by kernel_rfl) (by kernel_rfl) (by kernel_rfl) rfl hS (v_neq rfl rfl) ?_
                      refine d_take 8 rfl rfl (by kernel_rfl) (by kernel_rfl) (by kernel_rfl) rfl hS (v_pick_f rfl rfl) ?_
                      refine d_take 9 rfl rfl (by kernel_rfl) (by kernel_rfl) (by kernel_rfl) rfl hS (v_move rfl) ?_
                      refine x_split (t := 119) rfl ?_ ?_
                      · intro g18_10
                        exact absurd rfl g18_10
                      · intro g18_10
                        refine d_take 10 rfl rfl (by kernel_rfl) (by kernel_rfl) (by kernel_rfl) rfl hS (v_move rfl) ?_
                        refine d_take 11 rfl rfl (by kernel_rfl) (by kernel_rfl) (by kernel_rfl) rfl hS (v_move rfl) ?_
                        refine d_take 12 rfl rfl (by kernel_rfl) (by kernel_rfl) (by kernel_rfl) rfl hS (v_neq rfl rfl) ?_
                        refine d_take 13 rfl rfl (by kernel_rfl) (by kernel_rfl) (by kernel_rfl) rfl hS (v_pick_f rfl rfl) ?_
                        refine d_take 14 rfl rfl (by kernel_rfl) (by kernel_rfl) (by kernel_rfl) rfl hS (v_move rfl) ?_
                        refine x_split (t := 124) rfl ?_ ?_
                        · intro g18_15
                          exact absurd hsb g18_15
                        · intro g18_15
                          refine d_take 15 rfl rfl (by kernel_rfl) (by kernel_rfl) (by kernel_rfl) rfl hS (v_move rfl) ?_
                          refine d_take 16 rfl rfl (by kernel_rfl) (by kernel_rfl) (by kernel_rfl) rfl hS (v_move rfl) ?_
                          refine d_take 17 rfl rfl (by kernel_rfl) (by kernel_rfl) (by kernel_rfl) rfl hS (v_neq rfl rfl) ?_
                          refine d_take 18 rfl rfl (by kernel_rfl) (by kernel_rfl) (by kernel_rfl) rfl hS (v_pick_f rfl rfl) ?_
                          refine d_take 19 rfl rfl (by kernel_rfl) (by kernel_rfl) (by kernel_rfl) rfl hS (v_move rfl) ?_
                          refine x_split (t := 129) rfl ?_ ?_
                          · intro g18_20
                            exact absurd hsb g18_20
                          · intro g18_20
                            refine d_take 20 rfl rfl (by kernel_rfl) (by kernel_rfl) (by kernel_rfl) rfl hS (v_move rfl) ?_
                            refine d_take 21 rfl rfl (by kernel_rfl) (by kernel_rfl) (by kernel_rfl) rfl hS (v_move rfl) ?_
                            refine d_take 23 rfl rfl (by kernel_rfl) (by kernel_rfl) (by kernel_rfl) rfl hS (v_move rfl) ?_
                            refine d_one 22 (by kernel_rfl) rfl rfl (d_call4 Tryz.call36 rfl (qDone_spec W0 _ bq pv ps pm d3 f3 p3 hP3 hF3 hd3 s hbk.ok 0 0)) rfl ?_; clear hS
                            rintro _ B_ ⟨rfl, hB_⟩
                            obtain rfl := hB_.symm
                            rw [hbk.dn]
                            refine ⟨(sc_own sc_end), fun hS => ?_⟩
                            refine d_take 24 rfl rfl (by kernel_rfl) (by kernel_rfl) (by kernel_rfl) rfl hS (v_neq rfl rfl) ?_
                            refine d_take 25 rfl rfl (by kernel_rfl) (by kernel_rfl) (by kernel_rfl) rfl hS (v_pick_f rfl rfl) ?_
                            refine d_take 26 rfl rfl (by kernel_rfl) (by kernel_rfl) (by kernel_rfl) rfl hS (v_move rfl) ?_
                            refine x_split (t := 136) rfl ?_ ?_
                            · intro g18_27
                              exact absurd hsb g18_27
                            · intro g18_27
                              refine d_take 27 rfl rfl (by kernel_rfl) (by kernel_rfl) (by kernel_rfl) rfl hS (v_move rfl) ?_
                              refine d_take 29 rfl rfl (by kernel_rfl) (by kernel_rfl) (by kernel_rfl) rfl hS (v_loadAgg Tryz.isAgg59 Tryz.sizeOf59 rfl (cells_sc (k := 0) rfl) rfl) ?_
                              refine d_one 28 (by kernel_rfl) rfl rfl (d_call1 Tryz.call29 rfl (qState_spec W0 _ bq s)) rfl ?_; clear hS
                              rintro _ B_ ⟨rfl, hB_⟩
                              obtain rfl := hB_.symm
                              refine ⟨(sc_own sc_end), fun hS => ?_⟩
                              refine d_take 30 rfl rfl (by kernel_rfl) (by kernel_rfl) (by kernel_rfl) rfl hS (v_neq_agg Tryz.eqGuardType59 rfl rfl (q_struct Tryz.underlying59 Tryz.stoodInHeld59 (qf_gen rfl (part_agg Tryz.isAgg55 Tryz.sizeOf55 TakeL.eq) (part_agg Tryz.isAgg55 Tryz.sizeOf55 TakeL.eq) (q_struct Tryz.underlying55 Tryz.stoodInHeld55 (qf_scal rfl Tryz.isAgg53 rfl rfl (q_int Tryz.underlying53) (qf_scal rfl Tryz.isAgg53 rfl rfl (q_int Tryz.underlying53) (qf_scal rfl Tryz.isAgg53 rfl rfl (q_int Tryz.underlying53) (qf_scal rfl Tryz.isAgg3 rfl rfl (q_int Tryz.underlying3) qf_nil))))) (qf_scal rfl Tryz.isAgg4 rfl rfl (q_bool Tryz.underlying4) (qf_scal rfl Tryz.isAgg3 rfl rfl (q_int Tryz.underlying3) (qf_scal rfl Tryz.isAgg3 rfl rfl (q_int Tryz.underlying3) (qf_scal rfl Tryz.isAgg3 rfl rfl (q_int Tryz.underlying3) qf_nil))))))) ?_
                              refine d_take 31 rfl rfl (by kernel_rfl) (by kernel_rfl) (by kernel_rfl) rfl hS (v_pick_f rfl rfl) ?_
                              refine d_done (by kernel_rfl) ?_; clear hS
                              refine n_then ?_
                              refine x_if rfl ?_ ?_
                              · intro c18
                                first | exact absurd rfl c18 | exact absurd c18 (by simp)
                              · intro c18
                                refine x_skip ?_
                                refine n_block ?_
                                refine n_then ?_
                                refine x_region ?_
                                refine s_val rfl (v_move rfl) ?_
                                refine s_val rfl (v_add rfl rfl (by first | exact w64 (by omega) | rfl)) ?_
                                refine s_val rfl (v_assign rfl) ?_
                                refine x_nil ?_
                                refine n_then ?_
                                refine inv_intro (i + 1, f3, p3, d3) ?_ ?_ ?_ ?_
                                · exact ⟨by omega, hF3, hP3, hd3⟩
                                · omega
                                · repeat (first | exact sub_nil | refine sub_cons rfl ?_)
                                · exact inferInstance
              · intro c12
                refine x_exit ?_
                refine e_then ?_
                refine e_then ?_
                refine e_block ?_
                refine n_then ?_
                refine x_seq ?_
                refine x_region ?_
                refine s_val rfl (v_move rfl) ?_
                refine s_do rfl (d_call1 Tryz.call37 rfl (qOff_spec W0 _ bq s)) ?_
                rintro _ B_ ⟨rfl, hB_⟩
                obtain rfl := hB_.symm
                refine s_val rfl (v_eql rfl rfl) ?_
                refine s_val rfl (v_move rfl) ?_
                refine s_and rfl rfl rfl ?_ ?_
                · intro g20_4
                  refine s_val rfl (v_move rfl) ?_
                  refine s_yes rfl rfl ?_
                  refine s_do rfl (d_call1 Tryz.call29 rfl (qState_spec W0 _ bq qs0)) ?_
                  rintro _ B_ ⟨rfl, hB_⟩
                  obtain rfl := hB_.symm
                  refine s_yes rfl rfl ?_
                  refine s_val rfl (v_build Tryz.underlying59 Tryz.zeroValue59 (sized_cons Tryz.sizeOf55 (sized_cons Tryz.sizeOf4 (sized_cons Tryz.sizeOf3 (sized_cons Tryz.sizeOf3 (sized_cons Tryz.sizeOf3 sized_nil))))) fil_nil) ?_
                  refine s_yes rfl rfl ?_
                  refine s_val rfl (v_eql_agg Tryz.eqGuardType59 rfl rfl (q_struct Tryz.underlying59 Tryz.stoodInHeld59 (qf_gen rfl (part_agg Tryz.isAgg55 Tryz.sizeOf55 TakeL.eq) (part_agg Tryz.isAgg55 Tryz.sizeOf55 TakeL.eq) (q_struct Tryz.underlying55 Tryz.stoodInHeld55 (qf_scal rfl Tryz.isAgg53 rfl rfl (q_int Tryz.underlying53) (qf_scal rfl Tryz.isAgg53 rfl rfl (q_int Tryz.underlying53) (qf_scal rfl Tryz.isAgg53 rfl rfl (q_int Tryz.underlying53) (qf_scal rfl Tryz.isAgg3 rfl rfl (q_int Tryz.underlying3) qf_nil))))) (qf_scal rfl Tryz.isAgg4 rfl rfl (q_bool Tryz.underlying4) (qf_scal rfl Tryz.isAgg3 rfl rfl (q_int Tryz.underlying3) (qf_scal rfl Tryz.isAgg3 rfl rfl (q_int Tryz.underlying3) (qf_scal rfl Tryz.isAgg3 rfl rfl (q_int Tryz.underlying3) qf_nil))))))) ?_
                  refine s_val rfl (v_pick_t rfl rfl) ?_
                  refine s_val rfl (v_move rfl) ?_
                  refine s_and rfl rfl rfl ?_ ?_
                  · intro g20_10
                    refine s_do rfl (d_call Tryz.call30 rfl (awake23_spec W0 _)) ?_
                    rintro _ B_ ⟨rfl, hB_⟩
                    obtain rfl := hB_.symm
                    refine s_val rfl (v_pick_t rfl rfl) ?_
                    refine s_val rfl (v_assign rfl) ?_
                    refine x_nil ?_
                    refine n_then ?_
                    refine x_ret ?_
                    refine x_done (.inl rfl) (.cons (r_tmp rfl) .nil) ?_
                    exact ⟨_, ⟨rfl, rfl⟩, inferInstance⟩
                  · intro g20_10
                    first | exact absurd rfl g20_10 | exact absurd (by simp) g20_10
                · intro g20_4
                  exact absurd rfl g20_4
            · intro g12_5
              refine s_no rfl rfl rfl rfl ?_
              refine s_val rfl (v_pick_f rfl rfl) ?_
              refine x_nil ?_
              refine n_then ?_
              refine x_iff rfl ?_
              refine x_exit ?_
              refine e_then ?_
              refine e_then ?_
              refine e_block ?_
              refine n_then ?_
              refine x_seq ?_
              refine x_region ?_
              refine s_val rfl (v_move rfl) ?_
              refine s_do rfl (d_call1 Tryz.call37 rfl (qOff_spec W0 _ bq s)) ?_
              rintro _ B_ ⟨rfl, hB_⟩
              obtain rfl := hB_.symm
              refine s_val rfl (v_eql rfl rfl) ?_
              refine s_val rfl (v_move rfl) ?_
              refine s_and rfl rfl rfl ?_ ?_
              · intro g20_4
                refine s_val rfl (v_move rfl) ?_
                refine s_yes rfl rfl ?_
                refine s_do rfl (d_call1 Tryz.call29 rfl (qState_spec W0 _ bq qs0)) ?_
                rintro _ B_ ⟨rfl, hB_⟩
                obtain rfl := hB_.symm
                refine s_yes rfl rfl ?_
                refine s_val rfl (v_build Tryz.underlying59 Tryz.zeroValue59 (sized_cons Tryz.sizeOf55 (sized_cons Tryz.sizeOf4 (sized_cons Tryz.sizeOf3 (sized_cons Tryz.sizeOf3 (sized_cons Tryz.sizeOf3 sized_nil))))) fil_nil) ?_
                refine s_yes rfl rfl ?_
                refine s_val rfl (v_eql_agg Tryz.eqGuardType59 rfl rfl (q_struct Tryz.underlying59 Tryz.stoodInHeld59 (qf_gen rfl (part_agg Tryz.isAgg55 Tryz.sizeOf55 TakeL.eq) (part_agg Tryz.isAgg55 Tryz.sizeOf55 TakeL.eq) (q_struct Tryz.underlying55 Tryz.stoodInHeld55 (qf_scal rfl Tryz.isAgg53 rfl rfl (q_int Tryz.underlying53) (qf_scal rfl Tryz.isAgg53 rfl rfl (q_int Tryz.underlying53) (qf_scal rfl Tryz.isAgg53 rfl rfl (q_int Tryz.underlying53) (qf_scal rfl Tryz.isAgg3 rfl rfl (q_int Tryz.underlying3) qf_nil))))) (qf_scal rfl Tryz.isAgg4 rfl rfl (q_bool Tryz.underlying4) (qf_scal rfl Tryz.isAgg3 rfl rfl (q_int Tryz.underlying3) (qf_scal rfl Tryz.isAgg3 rfl rfl (q_int Tryz.underlying3) (qf_scal rfl Tryz.isAgg3 rfl rfl (q_int Tryz.underlying3) qf_nil))))))) ?_
                refine s_val rfl (v_pick_t rfl rfl) ?_
                refine s_val rfl (v_move rfl) ?_
                refine s_and rfl rfl rfl ?_ ?_
                · intro g20_10
                  refine s_do rfl (d_call Tryz.call30 rfl (awake23_spec W0 _)) ?_
                  rintro _ B_ ⟨rfl, hB_⟩
                  obtain rfl := hB_.symm
                  refine s_val rfl (v_pick_t rfl rfl) ?_
                  refine s_val rfl (v_assign rfl) ?_
                  refine x_nil ?_
                  refine n_then ?_
                  refine x_ret ?_
                  refine x_done (.inl rfl) (.cons (r_tmp rfl) .nil) ?_
                  exact ⟨_, ⟨rfl, rfl⟩, inferInstance⟩
                · intro g20_10
                  first | exact absurd rfl g20_10 | exact absurd (by simp) g20_10
              · intro g20_4
                exact absurd rfl g20_4
end Go.Proofs.YtechkfopkpkigaaGreat
