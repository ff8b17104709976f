/-
  Layer 23 (queue): the next head, the program's text.
-/
import Derived.Test.YtechkfopkpkigaaGreatQueue
namespace Go.Proofs.YtechkfopkpkigaaGreat
open Go.RowKit
set_option linter.unusedSimpArgs false
set_option linter.unusedVariables false
set_option maxRecDepth 20000

theorem d_callv5 {P : Program} {W0 : World} {N : FSz} {e : Env} {A R R1 R2 R3 R4 : List HP} {vs us cs : List Value} {K1 K2 K3 K4 K5 X1 X2 X3 X4 X5 : Type} {r1 : K1 → X1 → HP} {b1 : K1} {x1 : X1} {r2 : K2 → X2 → HP} {b2 : K2} {x2 : X2} {r3 : K3 → X3 → HP} {b3 : K3} {x3 : X3} {r4 : K4 → X4 → HP} {b4 : K4} {x4 : X4} {r5 : K5 → X5 → HP} {b5 : K5} {x5 : X5}
    {f : FuncId} {xs : Array Operand} {ats : Array TypeId} {Post : Value → List HP → Prop} {fx : Operand} (hf : ev e fx = some (.func (.func f) us.toArray cs.toArray)) (hc : ∀ args w, (callFunc f args).run P w = .ok (.enter f args) w) (hx : evs e xs.toList = some vs)
    (hs : Spec P W0 f (us ++ vs ++ cs) (r1 b1 x1 :: r2 b2 x2 :: r3 b3 x3 :: r4 b4 x4 :: r5 b5 x5 :: R) Post) [h1 : Tk r1 b1 A x1 R1] [h2 : Tk r2 b2 R1 x2 R2] [h3 : Tk r3 b3 R2 x3 R3] [h4 : Tk r4 b4 R3 x4 R4] [h5 : Tk r5 b5 R4 x5 R] : Does P W0 N e A (.call { callee := .value fx, args := xs, argTypes := ats }) Post :=
  does_perm perm5 (d_callv hf hc hx hs)
def hdA (sa last n : Nat) : Nat := sa + 4 + 4 * (last % n)
/-- The next head, whether there is one, and what is wrong. -/
def hdR (fr : List Frm) (pg : List Pl) (sa last n : Nat) : Nat × Bool × Int :=
  if ownB fr.length pg sa 4 then
    (if n < wtN last (wrdW fr pg sa) then (0, false, 7) else if wtN last (wrdW fr pg sa) = 0 then (0, false, 0) else
      if ownB fr.length pg (hdA sa last n) 4 then (if n ≤ wrdW fr pg (hdA sa last n) then (0, false, 1) else (wrdW fr pg (hdA sa last n), true, 0)) else (0, false, 5))
  else (0, false, 5)
theorem qHead_spec (W0 : World) (R : List HP) (b pv ps pm d : Nat) (fr : List Frm) (pg : List Pl) (h : Pgs pg) (hF : Frs fr) (sd sa su n last put : Nat) (on : Bool) (br : Int) (hn : n = 2 ∨ n = 4 ∨ n = 8) (ha : sa ≤ 1000) (hl : last < 65536) :
    Spec Tryz.prog W0 108 [.pointer (some ⟨b, 0, none⟩), .pointer (some ⟨pv, 0, none⟩)] (pt b (qO true ⟨⟨sd, sa, su, n⟩, on, br, last, put⟩) :: vwW pv ps pm d fr pg R)
      (fun v B => v = .tuple #[.int .i64 ((hdR fr pg sa last n).1 : Nat), .bool (hdR fr pg sa last n).2.1, .int .i64 (hdR fr pg sa last n).2.2] ∧ B = pt b (qO true ⟨⟨sd, sa, su, n⟩, on, br, last, put⟩) :: vwW pv ps pm d fr pg R) := by
  have hm := Nat.mod_lt last (show 0 < n by omega)
  have hA : hdA sa last n = sa + 4 + 4 * (last % n) := rfl
  have hw1 := wrdW_lt hF pg sa
  have hw2 := wrdW_lt hF pg (hdA sa last n)
  refine spec_body Tryz.func108 Tryz.ntmps108 rfl rfl ?_
  refine x_seq ?_
  refine x_region ?_
  refine s_do rfl (d_box rfl rfl) ?_
  rintro _ _ ⟨b1, rfl, rfl⟩
  refine s_val rfl (v_assign rfl) ?_
  refine s_val rfl (v_assign rfl) ?_
  refine s_val rfl (v_assign rfl) ?_
  refine x_nil ?_
  refine n_then ?_
  refine x_seq ?_
  refine x_region ?_
  refine s_do rfl (d_alloc Tryz.zeroValue3 rfl) ?_
  rintro _ _ ⟨b2, rfl, rfl⟩
  refine s_do0 (d_store Tryz.sizeOf3 rfl rfl rfl (Nat.le_of_ble_eq_true rfl) SetL.eq) ?_
  rintro _ _ rfl
  refine x_nil ?_
  refine n_then ?_
  refine x_seq ?_
  refine x_region ?_
  refine s_val rfl (v_mkFunc rfl rfl) ?_
  refine s_val rfl (v_assign rfl) ?_
  refine x_nil ?_
  refine n_then ?_
  refine x_seq ?_
  refine x_region ?_
  refine s_val rfl (v_move rfl) ?_
  refine s_val rfl (v_move rfl) ?_
  refine s_val rfl (v_move rfl) ?_
  refine s_val rfl (v_nilCheck rfl) ?_
  refine s_val rfl (v_fieldAddr rfl Tryz.underlying167 rfl Tryz.sizeOf59 rfl (by first | exact Nat.zero_add _ | rfl)) ?_
  refine s_val rfl (v_fieldAddr rfl Tryz.underlying59 rfl Tryz.sizeOf55 rfl (by first | exact Nat.zero_add _ | rfl)) ?_
  refine s_val rfl (v_fieldAddr rfl Tryz.underlying55 rfl Tryz.sizeOf53 rfl (by first | exact Nat.zero_add _ | rfl)) ?_
  refine s_val rfl (v_load Tryz.isAgg53 rfl (cell_own rfl)) ?_
  refine s_do rfl (d_callv5 rfl Tryz.call181 rfl (qRead_spec W0 _ b1 b2 pv ps pm d 0 fr pg h hF sa (by omega))) ?_
  rintro _ B_ ⟨rfl, hB_⟩
  obtain rfl := hB_.symm
  refine s_do rfl (d_call1 Tryz.call183 rfl (qWaiting_spec W0 _ b true ⟨⟨sd, sa, su, n⟩, on, br, last, put⟩ hl _ hw1)) ?_
  rintro _ B_ ⟨rfl, hB_⟩
  obtain rfl := hB_.symm
  refine s_val rfl (v_assign rfl) ?_
  refine x_nil ?_
  refine n_then ?_
  refine x_seq ?_
  refine x_block ?_
  refine x_seq ?_
  refine x_region ?_
  refine s_val rfl (v_load Tryz.isAgg3 rfl (cell_own rfl)) ?_
  refine s_val rfl (v_neq rfl rfl) ?_
  refine s_val rfl (v_assign rfl) ?_
  refine x_nil ?_
  refine n_then ?_
  refine x_if rfl ?_ ?_
  · intro c4
    have ho : ¬ ownB fr.length pg sa 4 = true := fun q => c4 (by rw [if_pos q])
    refine x_seq ?_
    refine x_draw [(b2, 0, _)] 4 mixed rfl (sc_own sc_end) (fun hS => ?_)
    refine d_take 0 rfl rfl (by kernel_rfl) (by kernel_rfl) (by kernel_rfl) rfl hS (v_load Tryz.isAgg3 rfl (cell_sc0 (k := 0) rfl rfl)) ?_
    refine d_take 1 rfl rfl (by kernel_rfl) (by kernel_rfl) (by kernel_rfl) rfl hS (v_assign rfl) ?_
    refine d_take 2 rfl rfl (by kernel_rfl) (by kernel_rfl) (by kernel_rfl) rfl hS (v_assign rfl) ?_
    refine d_take 3 rfl rfl (by kernel_rfl) (by kernel_rfl) (by kernel_rfl) rfl hS (v_assign rfl) ?_
    refine d_done (by kernel_rfl) ?_; clear hS
    refine n_then ?_
    refine x_ret ?_
    refine r_block ?_
    refine r_then ?_
    refine x_done (.inl rfl) (.cons (r_tmp rfl) (.cons (r_tmp rfl) (.cons (r_tmp rfl) .nil))) ?_
    refine ⟨_, ⟨?_, rfl⟩, inferInstance⟩
    rw [hdR, if_neg ho, if_neg ho]; rfl
  · intro c4
    have ho : ownB fr.length pg sa 4 = true := Decidable.byContradiction fun q => c4 (by rw [if_neg q]; decide)
    rw [if_pos ho]
    refine x_seq ?_
    refine x_region ?_
    refine s_val rfl (v_move rfl) ?_
    refine s_val rfl (v_move rfl) ?_
    refine s_val rfl (v_nilCheck rfl) ?_
    refine s_val rfl (v_fieldAddr rfl Tryz.underlying167 rfl Tryz.sizeOf59 rfl (by first | exact Nat.zero_add _ | rfl)) ?_
    refine s_val rfl (v_fieldAddr rfl Tryz.underlying59 rfl Tryz.sizeOf55 rfl (by first | exact Nat.zero_add _ | rfl)) ?_
    refine s_val rfl (v_fieldAddr rfl Tryz.underlying55 rfl Tryz.sizeOf3 rfl (by first | exact Nat.zero_add _ | rfl)) ?_
    refine s_val rfl (v_load Tryz.isAgg3 rfl (cell_own rfl)) ?_
    refine s_val rfl (v_gtr rfl rfl) ?_
    refine s_val rfl (v_assign rfl) ?_
    refine x_nil ?_
    refine n_then ?_
    refine x_if rfl ?_ ?_
    · intro c6
      dsimp only at c6
      have k6 : n < wtN last (wrdW fr pg sa) := by omega
      refine x_seq ?_
      refine x_region ?_
      refine s_val rfl (v_assign rfl) ?_
      refine s_val rfl (v_assign rfl) ?_
      refine s_val rfl (v_assign rfl) ?_
      refine x_nil ?_
      refine n_then ?_
      refine x_ret ?_
      refine r_block ?_
      refine r_then ?_
      refine x_done (.inl rfl) (.cons (r_tmp rfl) (.cons (r_tmp rfl) (.cons (r_tmp rfl) .nil))) ?_
      refine ⟨_, ⟨?_, rfl⟩, inferInstance⟩
      simp only [hdR, if_pos ho, if_pos k6]; rfl
    · intro c6
      dsimp only at c6
      have k6 : ¬ n < wtN last (wrdW fr pg sa) := by omega
      refine x_seq ?_
      refine x_region ?_
      refine s_val rfl (v_move rfl) ?_
      refine s_val rfl (v_eql rfl rfl) ?_
      refine s_val rfl (v_assign rfl) ?_
      refine x_nil ?_
      refine n_then ?_
      refine x_if rfl ?_ ?_
      · intro c8
        dsimp only at c8
        have k8 : wtN last (wrdW fr pg sa) = 0 := by omega
        refine x_seq ?_
        refine x_region ?_
        refine s_val rfl (v_assign rfl) ?_
        refine s_val rfl (v_assign rfl) ?_
        refine s_val rfl (v_assign rfl) ?_
        refine x_nil ?_
        refine n_then ?_
        refine x_ret ?_
        refine r_block ?_
        refine r_then ?_
        refine x_done (.inl rfl) (.cons (r_tmp rfl) (.cons (r_tmp rfl) (.cons (r_tmp rfl) .nil))) ?_
        refine ⟨_, ⟨?_, rfl⟩, inferInstance⟩
        simp only [hdR, if_pos ho, if_neg k6, if_pos k8]; rfl
      · intro c8
        dsimp only at c8
        have k8 : ¬ wtN last (wrdW fr pg sa) = 0 := by omega
        refine x_skip ?_
        refine n_block ?_
        refine n_then ?_
        refine x_seq ?_
        refine x_draw [(b, 0, _)] 25 mixed rfl (sc_own sc_end) (fun hS => ?_)
        refine d_take 0 rfl rfl (by kernel_rfl) (by kernel_rfl) (by kernel_rfl) rfl hS (v_move rfl) ?_
        refine d_take 1 rfl rfl (by kernel_rfl) (by kernel_rfl) (by kernel_rfl) rfl hS (v_move rfl) ?_
        refine d_take 2 rfl rfl (by kernel_rfl) (by kernel_rfl) (by kernel_rfl) rfl hS (v_nilCheck rfl) ?_
        refine d_take 3 rfl rfl (by kernel_rfl) (by kernel_rfl) (by kernel_rfl) rfl hS (v_fieldAddr rfl Tryz.underlying167 rfl Tryz.sizeOf59 rfl (by first | exact Nat.zero_add _ | rfl)) ?_
        refine d_take 4 rfl rfl (by kernel_rfl) (by kernel_rfl) (by kernel_rfl) rfl hS (v_fieldAddr rfl Tryz.underlying59 rfl Tryz.sizeOf55 rfl (by first | exact Nat.zero_add _ | rfl)) ?_
        refine d_take 5 rfl rfl (by kernel_rfl) (by kernel_rfl) (by kernel_rfl) rfl hS (v_fieldAddr rfl Tryz.underlying55 rfl Tryz.sizeOf53 rfl (by first | exact Nat.zero_add _ | rfl)) ?_
        refine d_take 6 rfl rfl (by kernel_rfl) (by kernel_rfl) (by kernel_rfl) rfl hS (v_load Tryz.isAgg53 rfl (cell_sc0 (k := 0) rfl rfl)) ?_
        refine d_take 7 rfl rfl (by kernel_rfl) (by kernel_rfl) (by kernel_rfl) rfl hS (v_add rfl rfl (by rw [w32u (by omega)]; omega : IntKind.wrap .u32 ((sa : Int) + 4) = ((sa + 4 : Nat) : Int))) ?_
        refine d_take 8 rfl rfl (by kernel_rfl) (by kernel_rfl) (by kernel_rfl) rfl hS (v_move rfl) ?_
        refine d_take 9 rfl rfl (by kernel_rfl) (by kernel_rfl) (by kernel_rfl) rfl hS (v_nilCheck rfl) ?_
        refine d_take 10 rfl rfl (by kernel_rfl) (by kernel_rfl) (by kernel_rfl) rfl hS (v_fieldAddr rfl Tryz.underlying167 rfl Tryz.sizeOf59 rfl (by first | exact Nat.zero_add _ | rfl)) ?_
        refine d_take 11 rfl rfl (by kernel_rfl) (by kernel_rfl) (by kernel_rfl) rfl hS (v_fieldAddr rfl Tryz.underlying59 rfl Tryz.sizeOf3 rfl (by first | exact Nat.zero_add _ | rfl)) ?_
        refine d_take 12 rfl rfl (by kernel_rfl) (by kernel_rfl) (by kernel_rfl) rfl hS (v_load Tryz.isAgg3 rfl (cell_sc0 (k := 0) rfl rfl)) ?_
        refine d_take 13 rfl rfl (by kernel_rfl) (by kernel_rfl) (by kernel_rfl) rfl hS (v_move rfl) ?_
        refine d_take 14 rfl rfl (by kernel_rfl) (by kernel_rfl) (by kernel_rfl) rfl hS (v_nilCheck rfl) ?_
        refine d_take 15 rfl rfl (by kernel_rfl) (by kernel_rfl) (by kernel_rfl) rfl hS (v_fieldAddr rfl Tryz.underlying167 rfl Tryz.sizeOf59 rfl (by first | exact Nat.zero_add _ | rfl)) ?_
        refine d_take 16 rfl rfl (by kernel_rfl) (by kernel_rfl) (by kernel_rfl) rfl hS (v_fieldAddr rfl Tryz.underlying59 rfl Tryz.sizeOf55 rfl (by first | exact Nat.zero_add _ | rfl)) ?_
        refine d_take 17 rfl rfl (by kernel_rfl) (by kernel_rfl) (by kernel_rfl) rfl hS (v_fieldAddr rfl Tryz.underlying55 rfl Tryz.sizeOf3 rfl (by first | exact Nat.zero_add _ | rfl)) ?_
        refine d_take 18 rfl rfl (by kernel_rfl) (by kernel_rfl) (by kernel_rfl) rfl hS (v_load Tryz.isAgg3 rfl (cell_sc0 (k := 0) rfl rfl)) ?_
        refine d_take 19 rfl rfl (by kernel_rfl) (by kernel_rfl) (by kernel_rfl) rfl hS (v_rem rfl rfl (show ((n : Nat) : Int) ≠ 0 by omega) (tmodN last n)) ?_
        refine d_take 20 rfl rfl (by kernel_rfl) (by kernel_rfl) (by kernel_rfl) rfl hS (v_conv Tryz.underlying3 Tryz.underlying53 rfl (w32u (by omega))) ?_
        refine d_take 21 rfl rfl (by kernel_rfl) (by kernel_rfl) (by kernel_rfl) rfl hS (v_mul rfl rfl (by rw [w32u (by omega)]; omega : IntKind.wrap .u32 (4 * ((last % n : Nat) : Int)) = ((4 * (last % n) : Nat) : Int))) ?_
        refine d_take 22 rfl rfl (by kernel_rfl) (by kernel_rfl) (by kernel_rfl) rfl hS (v_add rfl rfl (by rw [w32u (by omega), hA]; omega : IntKind.wrap .u32 (((sa + 4 : Nat) : Int) + ((4 * (last % n) : Nat) : Int)) = ((hdA sa last n : Nat) : Int))) ?_
        refine d_one 23 (by kernel_rfl) rfl rfl (d_callv5 rfl Tryz.call181 rfl (qRead_spec W0 _ b1 b2 pv ps pm d 0 fr pg h hF (hdA sa last n) (by omega))) rfl ?_; clear hS
        rintro _ B_ ⟨rfl, hB_⟩
        obtain rfl := hB_.symm
        refine ⟨(sc_own sc_end), fun hS => ?_⟩
        refine d_take 24 rfl rfl (by kernel_rfl) (by kernel_rfl) (by kernel_rfl) rfl hS (v_assign rfl) ?_
        refine d_done (by kernel_rfl) ?_; clear hS
        refine n_then ?_
        refine x_seq ?_
        refine x_block ?_
        refine x_seq ?_
        refine x_region ?_
        refine s_val rfl (v_load Tryz.isAgg3 rfl (cell_own rfl)) ?_
        refine s_val rfl (v_neq rfl rfl) ?_
        refine s_val rfl (v_assign rfl) ?_
        refine x_nil ?_
        refine n_then ?_
        refine x_if rfl ?_ ?_
        · intro c11
          have ho2 : ¬ ownB fr.length pg (hdA sa last n) 4 = true := fun q => c11 (by rw [if_pos q])
          refine x_seq ?_
          refine x_draw [(b2, 0, _)] 4 mixed rfl (sc_own sc_end) (fun hS => ?_)
          refine d_take 0 rfl rfl (by kernel_rfl) (by kernel_rfl) (by kernel_rfl) rfl hS (v_load Tryz.isAgg3 rfl (cell_sc0 (k := 0) rfl rfl)) ?_
          refine d_take 1 rfl rfl (by kernel_rfl) (by kernel_rfl) (by kernel_rfl) rfl hS (v_assign rfl) ?_
          refine d_take 2 rfl rfl (by kernel_rfl) (by kernel_rfl) (by kernel_rfl) rfl hS (v_assign rfl) ?_
          refine d_take 3 rfl rfl (by kernel_rfl) (by kernel_rfl) (by kernel_rfl) rfl hS (v_assign rfl) ?_
          refine d_done (by kernel_rfl) ?_; clear hS
          refine n_then ?_
          refine x_ret ?_
          refine r_block ?_
          refine r_then ?_
          refine x_done (.inl rfl) (.cons (r_tmp rfl) (.cons (r_tmp rfl) (.cons (r_tmp rfl) .nil))) ?_
          refine ⟨_, ⟨?_, rfl⟩, inferInstance⟩
          simp only [hdR, if_pos ho, if_neg k6, if_neg k8, if_neg ho2]; rfl
        · intro c11
          have ho2 : ownB fr.length pg (hdA sa last n) 4 = true := Decidable.byContradiction fun q => c11 (by rw [if_neg q]; decide)
          refine x_seq ?_
          refine x_region ?_
          refine s_val rfl (v_move rfl) ?_
          refine s_val rfl (v_move rfl) ?_
          refine s_val rfl (v_nilCheck rfl) ?_
          refine s_val rfl (v_fieldAddr rfl Tryz.underlying167 rfl Tryz.sizeOf59 rfl (by first | exact Nat.zero_add _ | rfl)) ?_
          refine s_val rfl (v_fieldAddr rfl Tryz.underlying59 rfl Tryz.sizeOf55 rfl (by first | exact Nat.zero_add _ | rfl)) ?_
          refine s_val rfl (v_fieldAddr rfl Tryz.underlying55 rfl Tryz.sizeOf3 rfl (by first | exact Nat.zero_add _ | rfl)) ?_
          refine s_val rfl (v_load Tryz.isAgg3 rfl (cell_own rfl)) ?_
          refine s_val rfl (v_conv Tryz.underlying3 Tryz.underlying53 rfl (show IntKind.wrap .u32 (n : Int) = (n : Int) from w32u (by omega))) ?_
          refine s_val rfl (v_geq rfl rfl) ?_
          refine s_val rfl (v_assign rfl) ?_
          refine x_nil ?_
          refine n_then ?_
          refine x_if rfl ?_ ?_
          · intro c13
            have k13 : n ≤ wrdW fr pg (hdA sa last n) := by omega
            refine x_seq ?_
            refine x_region ?_
            refine s_val rfl (v_assign rfl) ?_
            refine s_val rfl (v_assign rfl) ?_
            refine s_val rfl (v_assign rfl) ?_
            refine x_nil ?_
            refine n_then ?_
            refine x_ret ?_
            refine r_block ?_
            refine r_then ?_
            refine x_done (.inl rfl) (.cons (r_tmp rfl) (.cons (r_tmp rfl) (.cons (r_tmp rfl) .nil))) ?_
            refine ⟨_, ⟨?_, rfl⟩, inferInstance⟩
            simp only [hdR, if_pos ho, if_neg k6, if_neg k8, if_pos ho2, if_pos k13]; rfl
          · intro c13
            have k13 : ¬ n ≤ wrdW fr pg (hdA sa last n) := by omega
            refine x_skip ?_
            refine n_block ?_
            refine n_then ?_
            refine x_seq ?_
            refine x_region ?_
            refine s_val rfl (v_move rfl) ?_
            refine s_val rfl (v_conv Tryz.underlying53 Tryz.underlying3 rfl (w64 (by omega))) ?_
            refine s_val rfl (v_assign rfl) ?_
            refine s_val rfl (v_assign rfl) ?_
            refine s_val rfl (v_assign rfl) ?_
            refine x_nil ?_
            refine n_then ?_
            refine x_ret ?_
            refine x_done (.inl rfl) (.cons (r_tmp rfl) (.cons (r_tmp rfl) (.cons (r_tmp rfl) .nil))) ?_
            refine ⟨_, ⟨?_, rfl⟩, inferInstance⟩
            simp only [hdR, if_pos ho, if_neg k6, if_neg k8, if_pos ho2, if_neg k13]; rfl
/-- What the next head comes to, and the queue behind it. -/
def nxR (fr : List Frm) (pg : List Pl) (s : QS) : Nat × Bool × Int :=
  if s.on && decide (s.br = 0) then (if (hdR fr pg s.r.avail s.last s.r.n.toNat).2.2 ≠ 0 then (0, false, (hdR fr pg s.r.avail s.last s.r.n.toNat).2.2) else hdR fr pg s.r.avail s.last s.r.n.toNat) else (0, false, s.br)
def nxS (fr : List Frm) (pg : List Pl) (s : QS) : QS :=
  if s.on && decide (s.br = 0) then (if (hdR fr pg s.r.avail s.last s.r.n.toNat).2.2 ≠ 0 then { s with br := (hdR fr pg s.r.avail s.last s.r.n.toNat).2.2 } else if (hdR fr pg s.r.avail s.last s.r.n.toNat).2.1 then { s with last := (s.last + 1) % 65536 } else s) else s
/-- A queue that is on lies within the guest's memory. -/
structure QOk (s : QS) : Prop where
  n : s.on = true → s.r.n = 2 ∨ s.r.n = 4 ∨ s.r.n = 8
  av : s.on = true → s.r.avail ≤ 1000
  us : s.on = true → s.r.used ≤ 1000
  last : s.last < 65536
  put : s.put < 65536
theorem qNext_spec (W0 : World) (R : List HP) (b pv ps pm d : Nat) (fr : List Frm) (pg : List Pl) (h : Pgs pg) (hF : Frs fr) (s : QS) (hs : QOk s) :
    Spec Tryz.prog W0 34 [.pointer (some ⟨b, 0, none⟩), .pointer (some ⟨pv, 0, none⟩)] (pt b (qO true s) :: vwW pv ps pm d fr pg R)
      (fun v B => v = .tuple #[.int .i64 ((nxR fr pg s).1 : Nat), .bool (nxR fr pg s).2.1, .int .i64 (nxR fr pg s).2.2] ∧ B = pt b (qO true (nxS fr pg s)) :: vwW pv ps pm d fr pg R) := by
  obtain ⟨⟨sd, sa, su, sn⟩, on, br, last, put⟩ := s
  by_cases hu : (on && decide (br = 0)) = true
  · have hu' : on = true ∧ br = 0 := by simpa using hu
    have hon : on = true := hu'.1
    have hN := hs.n hon
    obtain ⟨n, rfl⟩ : ∃ n : Nat, sn = (n : Int) := ⟨sn.toNat, by dsimp only at hN; omega⟩
    have hn : n = 2 ∨ n = 4 ∨ n = 8 := by dsimp only at hN; omega
    have ha : sa ≤ 1000 := hs.av hon
    have hl : last < 65536 := hs.last
    obtain ⟨r, hr⟩ : ∃ r, hdR fr pg sa last n = r := ⟨_, rfl⟩
    simp only [nxR, nxS, if_pos hu, Int.toNat_natCast, hr]
    refine spec_body Tryz.func34 Tryz.ntmps34 rfl rfl ?_
    refine x_seq ?_
    refine x_region ?_
    refine s_val rfl (v_assign rfl) ?_
    refine s_val rfl (v_assign rfl) ?_
    refine s_val rfl (v_assign rfl) ?_
    refine x_nil ?_
    refine n_then ?_
    refine x_seq ?_
    refine x_block ?_
    refine x_seq ?_
    refine x_region ?_
    refine s_val rfl (v_move rfl) ?_
    refine s_do rfl (d_call1 Tryz.call94 rfl (qNone_spec W0 _ b true ⟨⟨sd, sa, su, n⟩, on, br, last, put⟩)) ?_
    rintro _ B_ ⟨rfl, hB_⟩
    obtain rfl := hB_.symm
    refine s_val rfl (v_assign rfl) ?_
    refine x_nil ?_
    refine n_then ?_
    refine x_if rfl ?_ ?_
    · intro c1
      exact absurd c1 (by decide)
    · intro c1
      refine x_seq ?_
      refine x_region ?_
      refine s_val rfl (v_move rfl) ?_
      refine s_do rfl (d_call1 Tryz.call107 rfl (qUsable_spec W0 _ b true ⟨⟨sd, sa, su, n⟩, on, br, last, put⟩)) ?_
      rintro _ B_ ⟨rfl, hB_⟩
      obtain rfl := hB_.symm
      refine s_val rfl (v_not rfl) ?_
      refine s_val rfl (v_assign rfl) ?_
      refine x_nil ?_
      refine n_then ?_
      refine x_if rfl ?_ ?_
      · intro c3
        exact absurd hu' c3
      · intro c3
        refine x_skip ?_
        refine n_block ?_
        refine n_then ?_
        refine x_seq ?_
        refine x_region ?_
        refine s_val rfl (v_move rfl) ?_
        refine s_val rfl (v_move rfl) ?_
        refine s_do rfl (d_call4 Tryz.call108 rfl (qHead_spec W0 _ b pv ps pm d fr pg h hF sd sa su n last put on br hn ha hl)) ?_
        rintro _ B_ ⟨rfl, hB_⟩
        obtain rfl := hB_.symm
        rw [hr]
        refine s_val rfl (v_move rfl) ?_
        refine s_val rfl (v_extract rfl rfl) ?_
        refine s_val rfl (v_extract rfl rfl) ?_
        refine s_val rfl (v_extract rfl rfl) ?_
        refine s_val rfl (v_assign rfl) ?_
        refine s_val rfl (v_assign rfl) ?_
        refine s_val rfl (v_assign rfl) ?_
        refine x_nil ?_
        refine n_then ?_
        refine x_seq ?_
        refine x_seq ?_
        refine x_region ?_
        refine s_val rfl (v_move rfl) ?_
        refine s_val rfl (v_neq rfl rfl) ?_
        refine x_nil ?_
        refine n_then ?_
        refine x_if rfl ?_ ?_
        · intro c6
          rw [if_pos c6, if_pos c6]
          refine x_seq ?_
          refine x_region ?_
          refine s_val rfl (v_assign rfl) ?_
          refine x_nil ?_
          refine n_then ?_
          refine x_seq ?_
          refine x_region ?_
          refine s_val rfl (v_move rfl) ?_
          refine s_val rfl (v_move rfl) ?_
          refine s_val rfl (v_move rfl) ?_
          refine s_do rfl (d_callv1 rfl Tryz.call96 rfl (qBreaks_spec W0 _ b true ⟨⟨sd, sa, su, n⟩, on, br, last, put⟩ r.2.2)) ?_
          rintro _ B_ ⟨rfl, hB_⟩
          obtain rfl := hB_.symm
          refine s_val rfl (v_assign rfl) ?_
          refine s_val rfl (v_assign rfl) ?_
          refine s_val rfl (v_assign rfl) ?_
          refine x_nil ?_
          refine n_then ?_
          refine x_ret ?_
          refine r_then ?_
          refine x_done (.inl rfl) (.cons (r_tmp rfl) (.cons (r_tmp rfl) (.cons (r_tmp rfl) .nil))) ?_
          exact ⟨_, ⟨rfl, rfl⟩, inferInstance⟩
        · intro c6
          rw [if_neg c6, if_neg c6]
          refine x_skip ?_
          refine n_then ?_
          refine x_seq ?_
          refine x_seq ?_
          refine x_region ?_
          refine s_val rfl (v_move rfl) ?_
          refine x_nil ?_
          refine n_then ?_
          refine x_if rfl ?_ ?_
          · intro c9
            rw [if_pos c9]
            refine x_region ?_
            refine s_val rfl (v_move rfl) ?_
            refine s_val rfl (v_move rfl) ?_
            refine s_val rfl (v_nilCheck rfl) ?_
            refine s_val rfl (v_fieldAddr rfl Tryz.underlying167 rfl Tryz.sizeOf59 rfl (by first | exact Nat.zero_add _ | rfl)) ?_
            refine s_val rfl (v_fieldAddr rfl Tryz.underlying59 rfl Tryz.sizeOf3 rfl (by first | exact Nat.zero_add _ | rfl)) ?_
            refine s_val rfl (v_load Tryz.isAgg3 rfl (cell_own rfl)) ?_
            refine s_do rfl (d_call Tryz.call109 rfl (qOne_spec W0 _ last hl)) ?_
            rintro _ B_ ⟨rfl, hB_⟩
            obtain rfl := hB_.symm
            refine s_val rfl (v_nilCheck rfl) ?_
            refine s_val rfl (v_fieldAddr rfl Tryz.underlying167 rfl Tryz.sizeOf59 rfl (by first | exact Nat.zero_add _ | rfl)) ?_
            refine s_val rfl (v_fieldAddr rfl Tryz.underlying59 rfl Tryz.sizeOf3 rfl (by first | exact Nat.zero_add _ | rfl)) ?_
            refine s_do0 (d_store Tryz.sizeOf3 rfl rfl rfl (Nat.le_of_ble_eq_true rfl) SetL.eq) ?_
            rintro _ _ rfl
            refine x_nil ?_
            refine n_then ?_
            refine x_seq ?_
            refine x_region ?_
            refine s_val rfl (v_move rfl) ?_
            refine s_val rfl (v_move rfl) ?_
            refine s_val rfl (v_assign rfl) ?_
            refine s_val rfl (v_assign rfl) ?_
            refine s_val rfl (v_assign rfl) ?_
            refine x_nil ?_
            refine n_then ?_
            refine x_ret ?_
            refine x_done (.inl rfl) (.cons (r_tmp rfl) (.cons (r_tmp rfl) (.cons (r_tmp rfl) .nil))) ?_
            refine ⟨_, ⟨?_, rfl⟩, inferInstance⟩
            have hz : r.2.2 = 0 := Decidable.not_not.1 c6
            rw [hz]; rfl
          · intro c9
            rw [if_neg c9]
            refine x_skip ?_
            refine n_then ?_
            refine x_seq ?_
            refine x_region ?_
            refine s_val rfl (v_move rfl) ?_
            refine s_val rfl (v_move rfl) ?_
            refine s_val rfl (v_assign rfl) ?_
            refine s_val rfl (v_assign rfl) ?_
            refine s_val rfl (v_assign rfl) ?_
            refine x_nil ?_
            refine n_then ?_
            refine x_ret ?_
            refine x_done (.inl rfl) (.cons (r_tmp rfl) (.cons (r_tmp rfl) (.cons (r_tmp rfl) .nil))) ?_
            refine ⟨_, ⟨?_, rfl⟩, inferInstance⟩
            have hz : r.2.2 = 0 := Decidable.not_not.1 c6
            rw [hz]; rfl
  · have hu' : ¬ (on = true ∧ br = 0) := by simpa using hu
    simp only [nxR, nxS, if_neg hu]
    refine spec_body Tryz.func34 Tryz.ntmps34 rfl rfl ?_
    refine x_seq ?_
    refine x_region ?_
    refine s_val rfl (v_assign rfl) ?_
    refine s_val rfl (v_assign rfl) ?_
    refine s_val rfl (v_assign rfl) ?_
    refine x_nil ?_
    refine n_then ?_
    refine x_seq ?_
    refine x_block ?_
    refine x_seq ?_
    refine x_region ?_
    refine s_val rfl (v_move rfl) ?_
    refine s_do rfl (d_call1 Tryz.call94 rfl (qNone_spec W0 _ b true ⟨⟨sd, sa, su, sn⟩, on, br, last, put⟩)) ?_
    rintro _ B_ ⟨rfl, hB_⟩
    obtain rfl := hB_.symm
    refine s_val rfl (v_assign rfl) ?_
    refine x_nil ?_
    refine n_then ?_
    refine x_if rfl ?_ ?_
    · intro c1
      exact absurd c1 (by decide)
    · intro c1
      refine x_seq ?_
      refine x_region ?_
      refine s_val rfl (v_move rfl) ?_
      refine s_do rfl (d_call1 Tryz.call107 rfl (qUsable_spec W0 _ b true ⟨⟨sd, sa, su, sn⟩, on, br, last, put⟩)) ?_
      rintro _ B_ ⟨rfl, hB_⟩
      obtain rfl := hB_.symm
      refine s_val rfl (v_not rfl) ?_
      refine s_val rfl (v_assign rfl) ?_
      refine x_nil ?_
      refine n_then ?_
      refine x_if rfl ?_ ?_
      · intro c3
        refine x_seq ?_
        refine x_draw [(b, 0, _)] 8 mixed rfl (sc_own sc_end) (fun hS => ?_)
        refine d_take 0 rfl rfl (by kernel_rfl) (by kernel_rfl) (by kernel_rfl) rfl hS (v_move rfl) ?_
        refine d_take 1 rfl rfl (by kernel_rfl) (by kernel_rfl) (by kernel_rfl) rfl hS (v_nilCheck rfl) ?_
        refine d_take 2 rfl rfl (by kernel_rfl) (by kernel_rfl) (by kernel_rfl) rfl hS (v_fieldAddr rfl Tryz.underlying167 rfl Tryz.sizeOf59 rfl (by first | exact Nat.zero_add _ | rfl)) ?_
        refine d_take 3 rfl rfl (by kernel_rfl) (by kernel_rfl) (by kernel_rfl) rfl hS (v_fieldAddr rfl Tryz.underlying59 rfl Tryz.sizeOf3 rfl (by first | exact Nat.zero_add _ | rfl)) ?_
        refine d_take 4 rfl rfl (by kernel_rfl) (by kernel_rfl) (by kernel_rfl) rfl hS (v_load Tryz.isAgg3 rfl (cell_sc0 (k := 0) rfl rfl)) ?_
        refine d_take 5 rfl rfl (by kernel_rfl) (by kernel_rfl) (by kernel_rfl) rfl hS (v_assign rfl) ?_
        refine d_take 6 rfl rfl (by kernel_rfl) (by kernel_rfl) (by kernel_rfl) rfl hS (v_assign rfl) ?_
        refine d_take 7 rfl rfl (by kernel_rfl) (by kernel_rfl) (by kernel_rfl) rfl hS (v_assign rfl) ?_
        refine d_done (by kernel_rfl) ?_; clear hS
        refine n_then ?_
        refine x_ret ?_
        refine r_block ?_
        refine r_then ?_
        refine x_done (.inl rfl) (.cons (r_tmp rfl) (.cons (r_tmp rfl) (.cons (r_tmp rfl) .nil))) ?_
        exact ⟨_, ⟨rfl, rfl⟩, inferInstance⟩
      · intro c3
        exact absurd (Decidable.not_not.1 c3) hu'
end Go.Proofs.YtechkfopkpkigaaGreat
