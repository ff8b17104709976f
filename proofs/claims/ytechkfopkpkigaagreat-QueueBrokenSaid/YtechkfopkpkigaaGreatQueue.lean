/-
  Layer 23 (queue): what a queue does, the program's text.
-/
import Derived.Test.YtechkfopkpkigaaGreatChain
import Derived.Test.YtechkfopkpkigaaGreatChainLaw
import Derived.Test.YtechkfopkpkigaaGreatWalk
namespace Go.Proofs.YtechkfopkpkigaaGreat
open Go.RowKit
set_option linter.unusedSimpArgs false
set_option linter.unusedVariables false
set_option maxRecDepth 20000

structure QS where
  r : Rg3
  on : Bool
  br : Int
  last : Nat
  put : Nat
@[reducible] def qs0 : QS := ⟨⟨0, 0, 0, 0⟩, false, 0, 0, 0⟩
@[reducible] def qsV (s : QS) : List Value := [.int .u32 s.r.desc, .int .u32 s.r.avail, .int .u32 s.r.used, .int .i64 s.r.n, .bool s.on, .int .i64 s.br, .int .i64 s.last, .int .i64 s.put]
abbrev qO (m : Bool) (s : QS) : Obj := cob [.int .u32 s.r.desc, .int .u32 s.r.avail, .int .u32 s.r.used, .int .i64 s.r.n, .bool s.on, .int .i64 s.br, .int .i64 s.last, .int .i64 s.put, .bool m] 167
def qSz (p : Nat) (n : Int) : Int := if szd n then (if p = 0 then 16 * n else if p = 1 then 4 + 4 * n else if p = 2 then 4 + 8 * n else 0) else 0
theorem szd_iff {n : Int} : szd n = true ↔ n = 2 ∨ n = 4 ∨ n = 8 := by unfold szd; exact ⟨of_decide_eq_true, decide_eq_true⟩
theorem dsSize_spec (W0 : World) (R : List HP) (p : Nat) (n : Int) : Spec Tryz.prog W0 174 [.int .i64 p, .int .i64 n] R (fun v B => v = .int .i64 (qSz p n) ∧ B = R) := by
  refine spec_body Tryz.func174 Tryz.ntmps174 rfl rfl ?_
  refine x_seq ?_
  refine x_region ?_
  refine s_val rfl (v_assign rfl) ?_
  refine x_nil ?_
  refine n_then ?_
  refine x_seq ?_
  refine x_seq ?_
  refine x_region ?_
  refine s_val rfl (v_move rfl) ?_
  refine s_do rfl (d_call Tryz.call226 rfl (dsSized_spec W0 _ n)) ?_
  rintro _ B_ ⟨rfl, hB_⟩
  obtain rfl := hB_.symm
  refine s_val rfl (v_not rfl) ?_
  refine x_nil ?_
  refine n_then ?_
  refine x_if rfl ?_ ?_
  · intro c1
    refine x_seq ?_
    refine x_region ?_
    refine s_val rfl (v_assign rfl) ?_
    refine x_nil ?_
    refine n_then ?_
    refine x_ret ?_
    refine r_then ?_
    refine x_done (.inl rfl) (.cons (r_tmp rfl) .nil) ?_
    refine ⟨_, ⟨?_, rfl⟩, inferInstance⟩
    have hz : ¬ szd n = true := c1
    refine congrArg (Value.int .i64) (Eq.symm ?_)
    rw [qSz, if_neg hz]
  · intro c1
    have hz : szd n = true := Decidable.not_not.1 c1
    have hn := szd_iff.1 hz
    refine x_skip ?_
    refine n_then ?_
    refine x_seq ?_
    refine x_seq ?_
    refine x_region ?_
    refine s_val rfl (v_move rfl) ?_
    refine x_nil ?_
    refine n_then ?_
    refine x_block ?_
    refine x_seq ?_
    refine x_region ?_
    refine s_val rfl (v_eql rfl rfl) ?_
    refine s_val rfl (v_assign rfl) ?_
    refine x_nil ?_
    refine n_then ?_
    refine x_if rfl ?_ ?_
    · intro c4
      refine x_seq ?_
      refine x_region ?_
      refine s_val rfl (v_move rfl) ?_
      refine s_val rfl (v_mul rfl rfl (w64 (by omega))) ?_
      refine s_val rfl (v_assign rfl) ?_
      refine x_nil ?_
      refine n_then ?_
      refine x_ret ?_
      refine r_block ?_
      refine r_then ?_
      refine x_done (.inl rfl) (.cons (r_tmp rfl) .nil) ?_
      refine ⟨_, ⟨?_, rfl⟩, inferInstance⟩
      refine congrArg (Value.int .i64) (Eq.symm ?_)
      rw [qSz, if_pos hz]
      (repeat' split) <;> first | rfl | omega
    · intro c4
      refine x_seq ?_
      refine x_region ?_
      refine s_val rfl (v_eql rfl rfl) ?_
      refine s_val rfl (v_assign rfl) ?_
      refine x_nil ?_
      refine n_then ?_
      refine x_if rfl ?_ ?_
      · intro c6
        refine x_seq ?_
        refine x_region ?_
        refine s_val rfl (v_move rfl) ?_
        refine s_val rfl (v_mul rfl rfl (w64 (by omega))) ?_
        refine s_val rfl (v_add rfl rfl (w64 (by omega))) ?_
        refine s_val rfl (v_assign rfl) ?_
        refine x_nil ?_
        refine n_then ?_
        refine x_ret ?_
        refine r_block ?_
        refine r_then ?_
        refine x_done (.inl rfl) (.cons (r_tmp rfl) .nil) ?_
        refine ⟨_, ⟨?_, rfl⟩, inferInstance⟩
        refine congrArg (Value.int .i64) (Eq.symm ?_)
        rw [qSz, if_pos hz]
        (repeat' split) <;> first | rfl | omega
      · intro c6
        refine x_seq ?_
        refine x_region ?_
        refine s_val rfl (v_eql rfl rfl) ?_
        refine s_val rfl (v_assign rfl) ?_
        refine x_nil ?_
        refine n_then ?_
        refine x_if rfl ?_ ?_
        · intro c8
          refine x_seq ?_
          refine x_region ?_
          refine s_val rfl (v_move rfl) ?_
          refine s_val rfl (v_mul rfl rfl (w64 (by omega))) ?_
          refine s_val rfl (v_add rfl rfl (w64 (by omega))) ?_
          refine s_val rfl (v_assign rfl) ?_
          refine x_nil ?_
          refine n_then ?_
          refine x_ret ?_
          refine r_block ?_
          refine r_then ?_
          refine x_done (.inl rfl) (.cons (r_tmp rfl) .nil) ?_
          refine ⟨_, ⟨?_, rfl⟩, inferInstance⟩
          refine congrArg (Value.int .i64) (Eq.symm ?_)
          rw [qSz, if_pos hz]
          (repeat' split) <;> first | rfl | omega
        · intro c8
          refine x_skip ?_
          refine n_block ?_
          refine n_then ?_
          refine x_seq ?_
          refine x_region ?_
          refine s_val rfl (v_assign rfl) ?_
          refine x_nil ?_
          refine n_then ?_
          refine x_ret ?_
          refine x_done (.inl rfl) (.cons (r_tmp rfl) .nil) ?_
          refine ⟨_, ⟨?_, rfl⟩, inferInstance⟩
          refine congrArg (Value.int .i64) (Eq.symm ?_)
          rw [qSz, if_pos hz]
          (repeat' split) <;> first | rfl | omega
theorem qNone_spec (W0 : World) (R : List HP) (b : Nat) (m : Bool) (s : QS) : Spec Tryz.prog W0 94 [.pointer (some ⟨b, 0, none⟩)] (pt b (qO m s) :: R) (fun v B => v = .bool (!m) ∧ B = pt b (qO m s) :: R) := by
  refine spec_body Tryz.func94 Tryz.ntmps94 rfl rfl ?_
  refine x_seq ?_
  refine x_region ?_
  refine s_val rfl (v_assign rfl) ?_
  refine x_nil ?_
  refine n_then ?_
  refine x_seq ?_
  refine x_region ?_
  refine s_val rfl (v_move rfl) ?_
  refine s_val rfl (v_eql_ptr_nil Tryz.underlying49 rfl rfl) ?_
  refine s_val rfl (v_move rfl) ?_
  refine s_or rfl rfl rfl ?_ ?_
  · intro g1_3
    cases g1_3
  · intro g1_3
    refine s_val rfl (v_move rfl) ?_
    refine s_yes rfl rfl ?_
    refine s_val rfl (v_nilCheck rfl) ?_
    refine s_yes rfl rfl ?_
    refine s_val rfl (v_fieldAddr rfl Tryz.underlying167 rfl Tryz.sizeOf4 rfl (by first | exact Nat.zero_add _ | rfl)) ?_
    refine s_yes rfl rfl ?_
    refine s_val rfl (v_load Tryz.isAgg4 rfl (cell_own rfl)) ?_
    refine s_yes rfl rfl ?_
    refine s_val rfl (v_not rfl) ?_
    refine s_val rfl (v_pick_f rfl rfl) ?_
    refine s_val rfl (v_assign rfl) ?_
    refine x_nil ?_
    refine n_then ?_
    refine x_ret ?_
    refine x_done (.inl rfl) (.cons (r_tmp rfl) .nil) ?_
    exact ⟨_, ⟨rfl, rfl⟩, inferInstance⟩
theorem qNew_spec (W0 : World) (R : List HP) : Spec Tryz.prog W0 25 [] R (fun v B => ∃ b, v = .pointer (some ⟨b, 0, none⟩) ∧ B = pt b (qO true qs0) :: R) := by
  refine spec_body Tryz.func25 Tryz.ntmps25 rfl rfl ?_
  refine x_seq ?_
  refine x_region ?_
  refine s_val rfl (v_assign rfl) ?_
  refine x_nil ?_
  refine n_then ?_
  refine x_seq ?_
  refine x_region ?_
  refine s_val rfl (v_build Tryz.underlying167 Tryz.zeroValue167 (sized_cons Tryz.sizeOf59 (sized_cons Tryz.sizeOf4 sized_nil)) (fil_scal rfl Tryz.sizeOf4 rfl rfl (Nat.le_of_ble_eq_true rfl) SetL.eq fil_nil)) ?_
  refine s_do rfl (d_boxA rfl) ?_
  rintro _ _ ⟨b1, rfl, rfl⟩
  refine s_val rfl (v_assign rfl) ?_
  refine x_nil ?_
  refine n_then ?_
  refine x_ret ?_
  refine x_done (.inl rfl) (.cons (r_tmp rfl) .nil) ?_
  exact ⟨_, ⟨_, rfl, rfl⟩, inferInstance⟩
theorem qBreaks_spec (W0 : World) (R : List HP) (b : Nat) (m : Bool) (s : QS) (w : Int) : Spec Tryz.prog W0 96 [.pointer (some ⟨b, 0, none⟩), .int .i64 w] (pt b (qO m s) :: R) (fun v B => v = .int .i64 w ∧ B = pt b (qO m { s with br := w }) :: R) := by
  refine spec_body Tryz.func96 Tryz.ntmps96 rfl rfl ?_
  refine x_seq ?_
  refine x_region ?_
  refine s_val rfl (v_assign rfl) ?_
  refine x_nil ?_
  refine n_then ?_
  refine x_seq ?_
  refine x_region ?_
  refine s_val rfl (v_move rfl) ?_
  refine s_val rfl (v_move rfl) ?_
  refine s_val rfl (v_nilCheck rfl) ?_
  refine s_val rfl (v_fieldAddr rfl Tryz.underlying167 rfl Tryz.sizeOf59 rfl (by first | exact Nat.zero_add _ | rfl)) ?_
  refine s_val rfl (v_fieldAddr rfl Tryz.underlying59 rfl Tryz.sizeOf3 rfl (by first | exact Nat.zero_add _ | rfl)) ?_
  refine s_do0 (d_store Tryz.sizeOf3 rfl rfl rfl (Nat.le_of_ble_eq_true rfl) SetL.eq) ?_
  rintro _ _ rfl
  refine x_nil ?_
  refine n_then ?_
  refine x_seq ?_
  refine x_region ?_
  refine s_val rfl (v_move rfl) ?_
  refine s_val rfl (v_assign rfl) ?_
  refine x_nil ?_
  refine n_then ?_
  refine x_ret ?_
  refine x_done (.inl rfl) (.cons (r_tmp rfl) .nil) ?_
  exact ⟨_, ⟨rfl, rfl⟩, inferInstance⟩
theorem qUsable_spec (W0 : World) (R : List HP) (b : Nat) (m : Bool) (s : QS) : Spec Tryz.prog W0 107 [.pointer (some ⟨b, 0, none⟩)] (pt b (qO m s) :: R) (fun v B => v = .bool (s.on && decide (s.br = 0)) ∧ B = pt b (qO m s) :: R) := by
  refine spec_body Tryz.func107 Tryz.ntmps107 rfl rfl ?_
  refine x_seq ?_
  refine x_region ?_
  refine s_val rfl (v_assign rfl) ?_
  refine x_nil ?_
  refine n_then ?_
  refine x_seq ?_
  refine x_region ?_
  refine s_val rfl (v_move rfl) ?_
  refine s_val rfl (v_nilCheck rfl) ?_
  refine s_val rfl (v_fieldAddr rfl Tryz.underlying167 rfl Tryz.sizeOf59 rfl (by first | exact Nat.zero_add _ | rfl)) ?_
  refine s_val rfl (v_fieldAddr rfl Tryz.underlying59 rfl Tryz.sizeOf4 rfl (by first | exact Nat.zero_add _ | rfl)) ?_
  refine s_val rfl (v_load Tryz.isAgg4 rfl (cell_own rfl)) ?_
  refine s_val rfl (v_move rfl) ?_
  refine s_and rfl rfl rfl ?_ ?_
  · intro g1_6
    refine s_val rfl (v_move rfl) ?_
    refine s_yes rfl rfl ?_
    refine s_val rfl (v_nilCheck rfl) ?_
    refine s_yes rfl rfl ?_
    refine s_val rfl (v_fieldAddr rfl Tryz.underlying167 rfl Tryz.sizeOf59 rfl (by first | exact Nat.zero_add _ | rfl)) ?_
    refine s_yes rfl rfl ?_
    refine s_val rfl (v_fieldAddr rfl Tryz.underlying59 rfl Tryz.sizeOf3 rfl (by first | exact Nat.zero_add _ | rfl)) ?_
    refine s_yes rfl rfl ?_
    refine s_val rfl (v_load Tryz.isAgg3 rfl (cell_own rfl)) ?_
    refine s_yes rfl rfl ?_
    refine s_val rfl (v_eql rfl rfl) ?_
    refine s_val rfl (v_pick_t rfl rfl) ?_
    refine s_val rfl (v_assign rfl) ?_
    refine x_nil ?_
    refine n_then ?_
    refine x_ret ?_
    refine x_done (.inl rfl) (.cons (r_tmp rfl) .nil) ?_
    refine ⟨_, ⟨?_, rfl⟩, inferInstance⟩
    simp_all [pack] <;> rfl
  · intro g1_6
    refine s_no rfl rfl rfl rfl ?_
    refine s_no rfl rfl rfl rfl ?_
    refine s_no rfl rfl rfl rfl ?_
    refine s_no rfl rfl rfl rfl ?_
    refine s_no rfl rfl rfl rfl ?_
    refine s_val rfl (v_pick_f rfl rfl) ?_
    refine s_val rfl (v_assign rfl) ?_
    refine x_nil ?_
    refine n_then ?_
    refine x_ret ?_
    refine x_done (.inl rfl) (.cons (r_tmp rfl) .nil) ?_
    refine ⟨_, ⟨?_, rfl⟩, inferInstance⟩
    simp_all [pack] <;> rfl
theorem qOne_spec (W0 : World) (R : List HP) (n : Nat) (hn : n < 65536) : Spec Tryz.prog W0 109 [.int .i64 n] R (fun v B => v = .int .i64 ((n + 1) % 65536 : Nat) ∧ B = R) := by
  refine spec_body Tryz.func109 Tryz.ntmps109 rfl rfl ?_
  refine x_seq ?_
  refine x_region ?_
  refine s_val rfl (v_assign rfl) ?_
  refine x_nil ?_
  refine n_then ?_
  refine x_seq ?_
  refine x_region ?_
  refine s_val rfl (v_move rfl) ?_
  refine s_val rfl (v_add rfl rfl (by rw [w64 (by omega)]; omega : IntKind.wrap .i64 ((n : Int) + 1) = ((n + 1 : Nat) : Int))) ?_
  refine s_val rfl (v_rem rfl rfl (by decide) (tmodN (n + 1) 65536)) ?_
  refine s_val rfl (v_assign rfl) ?_
  refine x_nil ?_
  refine n_then ?_
  refine x_ret ?_
  refine x_done (.inl rfl) (.cons (r_tmp rfl) .nil) ?_
  exact ⟨_, ⟨rfl, rfl⟩, inferInstance⟩
def wtN (last w : Nat) : Nat := (w % 65536 + 65536 - last) % 65536
theorem qWaiting_spec (W0 : World) (R : List HP) (b : Nat) (m : Bool) (s : QS) (hs : s.last < 65536) (w : Nat) (hw : w < 4294967296) : Spec Tryz.prog W0 183 [.pointer (some ⟨b, 0, none⟩), .int .u32 w] (pt b (qO m s) :: R) (fun v B => v = .int .i64 (wtN s.last w : Nat) ∧ B = pt b (qO m s) :: R) := by
  refine spec_body Tryz.func183 Tryz.ntmps183 rfl rfl ?_
  refine x_seq ?_
  refine x_region ?_
  refine s_val rfl (v_assign rfl) ?_
  refine x_nil ?_
  refine n_then ?_
  refine x_seq ?_
  refine x_region ?_
  refine s_val rfl (v_move rfl) ?_
  refine s_val rfl (v_rem rfl rfl (by decide) (tmodN w 65536)) ?_
  refine s_val rfl (v_conv Tryz.underlying53 Tryz.underlying3 rfl (w64 (by omega))) ?_
  refine s_val rfl (v_move rfl) ?_
  refine s_val rfl (v_nilCheck rfl) ?_
  refine s_val rfl (v_fieldAddr rfl Tryz.underlying167 rfl Tryz.sizeOf59 rfl (by first | exact Nat.zero_add _ | rfl)) ?_
  refine s_val rfl (v_fieldAddr rfl Tryz.underlying59 rfl Tryz.sizeOf3 rfl (by first | exact Nat.zero_add _ | rfl)) ?_
  refine s_val rfl (v_load Tryz.isAgg3 rfl (cell_own rfl)) ?_
  refine s_val rfl (v_sub rfl rfl (w64 (by omega))) ?_
  refine s_val rfl (v_add rfl rfl (by rw [w64 (by omega)]; omega : IntKind.wrap .i64 (((w % 65536 : Nat) : Int) - (s.last : Int) + 65536) = ((w % 65536 + 65536 - s.last : Nat) : Int))) ?_
  refine s_val rfl (v_rem rfl rfl (by decide) (tmodN (w % 65536 + 65536 - s.last) 65536)) ?_
  refine s_val rfl (v_assign rfl) ?_
  refine x_nil ?_
  refine n_then ?_
  refine x_ret ?_
  refine x_done (.inl rfl) (.cons (r_tmp rfl) .nil) ?_
  exact ⟨_, ⟨rfl, rfl⟩, inferInstance⟩
theorem qState_spec (W0 : World) (R : List HP) (b : Nat) (s : QS) : Spec Tryz.prog W0 29 [.pointer (some ⟨b, 0, none⟩)] (pt b (qO true s) :: R) (fun v B => v = .agg (qsV s).toArray ∧ B = pt b (qO true s) :: R) := by
  refine spec_body Tryz.func29 Tryz.ntmps29 rfl rfl ?_
  refine x_seq ?_
  refine x_region ?_
  refine s_do rfl (d_allocA Tryz.zeroValue59) ?_
  rintro _ _ ⟨b1, rfl, rfl⟩
  refine x_nil ?_
  refine n_then ?_
  refine x_seq ?_
  refine x_seq ?_
  refine x_region ?_
  refine s_val rfl (v_move rfl) ?_
  refine s_do rfl (d_call1 Tryz.call94 rfl (qNone_spec W0 _ b true s)) ?_
  rintro _ B_ ⟨rfl, hB_⟩
  obtain rfl := hB_.symm
  refine x_nil ?_
  refine n_then ?_
  refine x_if rfl ?_ ?_
  · intro c1
    exact absurd c1 (by decide)
  · intro c1
    refine x_skip ?_
    refine n_then ?_
    refine x_seq ?_
    refine x_region ?_
    refine s_val rfl (v_move rfl) ?_
    refine s_val rfl (v_nilCheck rfl) ?_
    refine s_val rfl (v_fieldAddr rfl Tryz.underlying167 rfl Tryz.sizeOf59 rfl (by first | exact Nat.zero_add _ | rfl)) ?_
    refine s_val rfl (v_loadPart Tryz.isAgg59 Tryz.sizeOf59 rfl TakeL.eq rfl) ?_
    refine s_do0 (d_storeAll Tryz.sizeOf59 rfl rfl rfl rfl rfl) ?_
    rintro _ _ rfl
    refine x_nil ?_
    refine n_then ?_
    refine x_ret ?_
    refine x_done (.inl rfl) (.cons (r_all Tryz.isAgg59 Tryz.sizeOf59 rfl rfl) .nil) ?_
    exact ⟨_, ⟨rfl, rfl⟩, inferInstance⟩
theorem qOff_spec (W0 : World) (R : List HP) (b : Nat) (s : QS) : Spec Tryz.prog W0 37 [.pointer (some ⟨b, 0, none⟩)] (pt b (qO true s) :: R) (fun v B => v = .int .i64 0 ∧ B = pt b (qO true qs0) :: R) := by
  refine spec_body Tryz.func37 Tryz.ntmps37 rfl rfl ?_
  refine x_seq ?_
  refine x_region ?_
  refine s_val rfl (v_assign rfl) ?_
  refine x_nil ?_
  refine n_then ?_
  refine x_seq ?_
  refine x_seq ?_
  refine x_region ?_
  refine s_val rfl (v_move rfl) ?_
  refine s_do rfl (d_call1 Tryz.call94 rfl (qNone_spec W0 _ b true s)) ?_
  rintro _ B_ ⟨rfl, hB_⟩
  obtain rfl := hB_.symm
  refine x_nil ?_
  refine n_then ?_
  refine x_if rfl ?_ ?_
  · intro c1
    exact absurd c1 (by decide)
  · intro c1
    refine x_skip ?_
    refine n_then ?_
    refine x_seq ?_
    refine x_region ?_
    refine s_val rfl (v_move rfl) ?_
    refine s_val rfl (v_build Tryz.underlying59 Tryz.zeroValue59 (sized_cons Tryz.sizeOf55 (sized_cons Tryz.sizeOf4 (sized_cons Tryz.sizeOf3 (sized_cons Tryz.sizeOf3 (sized_cons Tryz.sizeOf3 sized_nil))))) fil_nil) ?_
    refine s_val rfl (v_nilCheck rfl) ?_
    refine s_val rfl (v_fieldAddr rfl Tryz.underlying167 rfl Tryz.sizeOf59 rfl (by first | exact Nat.zero_add _ | rfl)) ?_
    refine s_do0 (d_storeAgg Tryz.sizeOf59 rfl rfl rfl rfl (Nat.le_of_ble_eq_true rfl) SetRL.eq) ?_
    rintro _ _ rfl
    refine x_nil ?_
    refine n_then ?_
    refine x_seq ?_
    refine x_region ?_
    refine s_val rfl (v_assign rfl) ?_
    refine x_nil ?_
    refine n_then ?_
    refine x_ret ?_
    refine x_done (.inl rfl) (.cons (r_tmp rfl) .nil) ?_
    exact ⟨_, ⟨rfl, rfl⟩, inferInstance⟩
def fitB (len : Nat) (pg : List Pl) (r : Rg3) : Bool := (ownB len pg r.desc (qSz 0 r.n) && ownB len pg r.avail (qSz 1 r.n) && ownB len pg r.used (qSz 2 r.n)) && rgtB r
theorem octB1_spec (W0 : World) (R : List HP) (a : Option Addr) (c w : Nat) (hs : SlA (OwnP W0 R) a 1 (fun x => [wV x]) [w]) (hw : w < 4294967296) :
    Spec Tryz.prog W0 171 [.slice a 1 c] R (fun v B => ∃ a' c', v = .slice a' 4 c' ∧ B = osl 5 1 (.slice a' 4 c') (byV (bytesL [w])) :: R) :=
  octBytes_spec W0 R a c [w] hs (fun x hx => by simp at hx; omega) (by simp)
theorem qPut_spec (W0 : World) (R : List HP) (pv ps pm d : Nat) (fr : List Frm) (pg : List Pl) (h : Pgs pg) (hF : Frs fr) (hd : d < 4096) (pa : Nat) (hpa : pa < 4294967296) (w : Nat) (hw : w < 4294967296) :
    Spec Tryz.prog W0 111 [.pointer (some ⟨pv, 0, none⟩), .int .u32 pa, .int .u32 w] (vwW pv ps pm d fr pg R)
      (fun v B => v = .bool (ownB fr.length pg pa 4) ∧ B = vwW pv ps pm (wrE fr pg pa d 4) (wrF fr pg pa (bytesL [w])) pg R) := by
  refine spec_body Tryz.func111 Tryz.ntmps111 rfl rfl ?_
  refine x_seq ?_
  refine x_region ?_
  refine s_val rfl (v_assign rfl) ?_
  refine x_nil ?_
  refine n_then ?_
  refine x_seq ?_
  refine x_region ?_
  refine s_val rfl (v_move rfl) ?_
  refine s_val rfl (v_move rfl) ?_
  refine s_val rfl (v_move rfl) ?_
  refine s_do rfl (d_sliceLit Tryz.underlying84 Tryz.sizeOf53 Tryz.zeroValue53 rfl rfl rfl rfl rfl (by decide) (by decide)) ?_
  rintro _ _ ⟨b1, rfl, rfl⟩
  refine s_do rfl (d_call Tryz.call171 rfl (octB1_spec W0 _ (some ⟨b1, 0, none⟩) _ w (sla_pt (fun _ => rfl) rfl) hw)) ?_
  rintro _ B_ ⟨a', c', rfl, hB_⟩
  obtain rfl := hB_.symm
  refine run_form (E := 5) (sz := 1) (a := a') (c := c') (n := 4) (fun hf => ?_)
  refine s_do rfl (d_call3 Tryz.call92 rfl (viWriteN_spec W0 _ pv ps pm d c' 4 a' fr pg h hF hd pa hpa (bytesL [w]) (by rw [bytesL_len]; rfl) (bytesL_by _) (sla_cells hf (cells_osl (E := 5) (sz := 1) (a := a') (c := c') (n := 4)) (fun _ => rfl) (byV_fm _).symm (by decide)) (by decide))) ?_
  rintro _ B_ ⟨rfl, hB_⟩
  obtain rfl := hB_.symm
  refine s_val rfl (v_assign rfl) ?_
  refine x_nil ?_
  refine n_then ?_
  refine x_ret ?_
  refine x_done (.inl rfl) (.cons (r_tmp rfl) .nil) ?_
  exact ⟨_, ⟨rfl, rfl⟩, inferInstance⟩
def wrdW (fr : List Frm) (pg : List Pl) (pa : Nat) : Nat := if ownB fr.length pg pa 4 then leN (rdL fr pg pa 4) else 0
theorem wrdW_lt {fr : List Frm} (hF : Frs fr) (pg : List Pl) (pa : Nat) : wrdW fr pg pa < 4294967296 := by
  unfold wrdW; split
  · have := leN_lt (rdL_by hF pg pa 4); rw [rdL_len] at this; exact this
  · decide
theorem qWord_spec (W0 : World) (R : List HP) (pv ps pm d : Nat) (fr : List Frm) (pg : List Pl) (h : Pgs pg) (hF : Frs fr) (pa : Nat) (hpa : pa < 4294967296) :
    Spec Tryz.prog W0 182 [.pointer (some ⟨pv, 0, none⟩), .int .u32 pa] (vwW pv ps pm d fr pg R)
      (fun v B => v = .tuple #[.int .u32 (wrdW fr pg pa : Nat), .bool (ownB fr.length pg pa 4)] ∧ B = vwW pv ps pm d fr pg R) := by
  refine spec_body Tryz.func182 Tryz.ntmps182 rfl rfl ?_
  refine x_seq ?_
  refine x_region ?_
  refine s_val rfl (v_assign rfl) ?_
  refine s_val rfl (v_assign rfl) ?_
  refine x_nil ?_
  refine n_then ?_
  refine x_seq ?_
  refine x_region ?_
  refine s_val rfl (v_move rfl) ?_
  refine s_val rfl (v_move rfl) ?_
  refine s_do rfl (d_call3 Tryz.call44 rfl (viRead_spec W0 _ pv ps pm d fr pg h hF pa hpa 4)) ?_
  rintro _ B_ ⟨a, c, rfl, hB_⟩
  obtain rfl := hB_.symm
  refine s_val rfl (v_move rfl) ?_
  refine s_val rfl (v_extract rfl rfl) ?_
  refine s_val rfl (v_extract rfl rfl) ?_
  refine s_val rfl (v_assign rfl) ?_
  refine s_val rfl (v_assign rfl) ?_
  refine x_nil ?_
  refine n_then ?_
  refine x_seq ?_
  refine x_seq ?_
  refine x_region ?_
  refine s_val rfl (v_move rfl) ?_
  refine s_val rfl (v_not rfl) ?_
  refine x_nil ?_
  refine n_then ?_
  refine x_if rfl ?_ ?_
  · intro c2
    refine x_seq ?_
    refine x_region ?_
    refine s_val rfl (v_assign rfl) ?_
    refine s_val rfl (v_assign rfl) ?_
    refine x_nil ?_
    refine n_then ?_
    refine x_ret ?_
    refine r_then ?_
    refine x_done (.inl rfl) (.cons (r_tmp rfl) (.cons (r_tmp rfl) .nil)) ?_
    refine ⟨_, ⟨?_, rfl⟩, inferInstance⟩
    have ho : ownB fr.length pg pa 4 = false := by simpa using c2
    simp [pack, wrdW, ho]
  · intro c2
    have ho : ownB fr.length pg pa 4 = true := Decidable.not_not.1 c2
    have hrd : rdO fr pg pa 4 = rdL fr pg pa 4 := by rw [rdO, if_pos ho]; rfl
    have hln : (rdL fr pg pa 4).length = 4 := rdL_len _ _ _ _
    obtain ⟨hg1, hg2⟩ := getN_all hln
    rw [hrd]
    refine run_form (E := 5) (sz := 1) (a := a) (c := c) (n := (rdL fr pg pa 4).length) (fun hf => ?_)
    obtain ⟨g, rfl⟩ := form_some hf (by intro h0; have := congrArg List.length h0; rw [byV_len, hln] at this; simp at this)
    refine run_cap (E := 5) (sz := 1) (a := some ⟨g, 0, none⟩) (c := c) (n := (rdL fr pg pa 4).length) (fun hcap => ?_)
    refine x_skip ?_
    refine n_then ?_
    refine x_seq ?_
    refine x_region ?_
    refine s_val rfl (v_move rfl) ?_
    refine s_do rfl (d_call Tryz.call187 rfl (octGet_spec W0 _ g 0 c (rdL fr pg pa 4) 0 4 (cells_osl (E := 5) (sz := 1) (a := some ⟨g, 0, none⟩) (c := c) (n := (rdL fr pg pa 4).length)) (rdL_by hF _ _ _) hcap.1 (maxLen_lt hcap.2))) ?_
    rintro _ B_ ⟨rfl, hB_⟩
    obtain rfl := hB_.symm
    rw [hg1, hg2]
    refine s_val rfl (v_move rfl) ?_
    refine s_val rfl (v_extract rfl rfl) ?_
    refine s_val rfl (v_extract rfl rfl) ?_
    refine s_val rfl (v_assign rfl) ?_
    refine s_val rfl (v_assign rfl) ?_
    refine x_nil ?_
    refine n_then ?_
    refine x_seq ?_
    refine x_region ?_
    refine s_val rfl (v_move rfl) ?_
    refine s_val rfl (v_move rfl) ?_
    refine s_val rfl (v_eql rfl rfl) ?_
    refine s_val rfl (v_assign rfl) ?_
    refine s_val rfl (v_assign rfl) ?_
    refine x_nil ?_
    refine n_then ?_
    refine x_ret ?_
    refine x_done (.inl rfl) (.cons (r_tmp rfl) (.cons (r_tmp rfl) .nil)) ?_
    refine ⟨_, ⟨?_, rfl⟩, inferInstance⟩
    simp [pack, wrdW, ho]
theorem qRead_spec (W0 : World) (R : List HP) (bv bb pv ps pm d : Nat) (bad : Int) (fr : List Frm) (pg : List Pl) (h : Pgs pg) (hF : Frs fr) (pa : Nat) (hpa : pa < 4294967296) :
    Spec Tryz.prog W0 181 [.int .u32 pa, .pointer (some ⟨bv, 0, none⟩), .pointer (some ⟨bb, 0, none⟩)] (pt bv (cob [.pointer (some ⟨pv, 0, none⟩)] 45) :: pt bb (cob [.int .i64 bad] 3) :: vwW pv ps pm d fr pg R)
      (fun v B => v = .int .u32 (wrdW fr pg pa : Nat) ∧ B = pt bv (cob [.pointer (some ⟨pv, 0, none⟩)] 45) :: pt bb (cob [.int .i64 (if ownB fr.length pg pa 4 then bad else 5)] 3) :: vwW pv ps pm d fr pg R) := by
  by_cases ho : ownB fr.length pg pa 4 = true
  · rw [if_pos ho]
    refine spec_body Tryz.func181 Tryz.ntmps181 rfl rfl ?_
    refine x_seq ?_
    refine x_region ?_
    refine s_val rfl (v_assign rfl) ?_
    refine x_nil ?_
    refine n_then ?_
    refine x_seq ?_
    refine x_region ?_
    refine s_val rfl (v_load Tryz.isAgg45 rfl (cell_own rfl)) ?_
    refine s_val rfl (v_move rfl) ?_
    refine s_do rfl (d_call3 Tryz.call182 rfl (qWord_spec W0 _ pv ps pm d fr pg h hF pa hpa)) ?_
    rintro _ B_ ⟨rfl, hB_⟩
    obtain rfl := hB_.symm
    refine s_val rfl (v_move rfl) ?_
    refine s_val rfl (v_extract rfl rfl) ?_
    refine s_val rfl (v_extract rfl rfl) ?_
    refine s_val rfl (v_assign rfl) ?_
    refine s_val rfl (v_assign rfl) ?_
    refine x_nil ?_
    refine n_then ?_
    refine x_seq ?_
    refine x_seq ?_
    refine x_region ?_
    refine s_val rfl (v_move rfl) ?_
    refine s_val rfl (v_not rfl) ?_
    refine x_nil ?_
    refine n_then ?_
    refine x_if rfl ?_ ?_
    · intro c2
      exact absurd ho c2
    · intro c2
      refine x_skip ?_
      refine n_then ?_
      refine x_seq ?_
      refine x_region ?_
      refine s_val rfl (v_move rfl) ?_
      refine s_val rfl (v_assign rfl) ?_
      refine x_nil ?_
      refine n_then ?_
      refine x_ret ?_
      refine x_done (.inl rfl) (.cons (r_tmp rfl) .nil) ?_
      exact ⟨_, ⟨rfl, rfl⟩, inferInstance⟩
  · rw [if_neg ho]
    refine spec_body Tryz.func181 Tryz.ntmps181 rfl rfl ?_
    refine x_seq ?_
    refine x_region ?_
    refine s_val rfl (v_assign rfl) ?_
    refine x_nil ?_
    refine n_then ?_
    refine x_seq ?_
    refine x_region ?_
    refine s_val rfl (v_load Tryz.isAgg45 rfl (cell_own rfl)) ?_
    refine s_val rfl (v_move rfl) ?_
    refine s_do rfl (d_call3 Tryz.call182 rfl (qWord_spec W0 _ pv ps pm d fr pg h hF pa hpa)) ?_
    rintro _ B_ ⟨rfl, hB_⟩
    obtain rfl := hB_.symm
    refine s_val rfl (v_move rfl) ?_
    refine s_val rfl (v_extract rfl rfl) ?_
    refine s_val rfl (v_extract rfl rfl) ?_
    refine s_val rfl (v_assign rfl) ?_
    refine s_val rfl (v_assign rfl) ?_
    refine x_nil ?_
    refine n_then ?_
    refine x_seq ?_
    refine x_seq ?_
    refine x_region ?_
    refine s_val rfl (v_move rfl) ?_
    refine s_val rfl (v_not rfl) ?_
    refine x_nil ?_
    refine n_then ?_
    refine x_if rfl ?_ ?_
    · intro c2
      refine x_region ?_
      refine s_do0 (d_store Tryz.sizeOf3 rfl rfl rfl (Nat.le_of_ble_eq_true rfl) SetL.eq) ?_
      rintro _ _ rfl
      refine x_nil ?_
      refine n_then ?_
      refine x_seq ?_
      refine x_region ?_
      refine s_val rfl (v_move rfl) ?_
      refine s_val rfl (v_assign rfl) ?_
      refine x_nil ?_
      refine n_then ?_
      refine x_ret ?_
      refine x_done (.inl rfl) (.cons (r_tmp rfl) .nil) ?_
      exact ⟨_, ⟨rfl, rfl⟩, inferInstance⟩
    · intro c2
      exact absurd (Decidable.not_not.1 c2) ho
end Go.Proofs.YtechkfopkpkigaaGreat
