/-
  Part 4 of the proof of BlkServes: rules, and walks of functions. Conditions: none.
-/
import Derived.Test.YtncegikenkpcmaaGreatBlkServesC
namespace Go.Proofs.YtncegikenkpcmaaGreat
open Go.RowKit
set_option linter.unusedSimpArgs false
set_option linter.unusedVariables false
set_option maxRecDepth 20000
structure QS where
  r : Rg3
  on : Bool
  br : Int
  last : Nat
  put : Nat
@[reducible] def qs0 : QS := ⟨⟨0, 0, 0, 0⟩, false, 0, 0, 0⟩
@[reducible] def qsV (s : QS) : List Value := [.int .u32 s.r.desc, .int .u32 s.r.avail, .int .u32 s.r.used, .int .i64 s.r.n, .bool s.on, .int .i64 s.br, .int .i64 s.last, .int .i64 s.put]
abbrev qO (m : Bool) (s : QS) : Obj := cob [.int .u32 s.r.desc, .int .u32 s.r.avail, .int .u32 s.r.used, .int .i64 s.r.n, .bool s.on, .int .i64 s.br, .int .i64 s.last, .int .i64 s.put, .bool m] 185
def qSz (p : Nat) (n : Int) : Int := if szd n then (if p = 0 then 16 * n else if p = 1 then 4 + 4 * n else if p = 2 then 4 + 8 * n else 0) else 0
theorem szd_iff {n : Int} : szd n = true ↔ n = 2 ∨ n = 4 ∨ n = 8 := by unfold szd; exact ⟨of_decide_eq_true, decide_eq_true⟩
theorem dsSize_spec (W0 : World) (R : List HP) (p : Nat) (n : Int) : Spec Tryz.prog W0 198 [.int .i64 p, .int .i64 n] R (fun v B => v = .int .i64 (qSz p n) ∧ B = R) := by
  refine spec_body Tryz.func198 Tryz.ntmps198 rfl rfl ?_
  refine x_seq (x_region (s_val rfl (v_assign rfl) (x_nil (n_then (x_seq (x_seq (x_region (s_val rfl (v_move rfl) (s_do rfl (d_call Tryz.call237 rfl (dsSized_spec W0 _ n)) ?_)))))))))
  rintro _ B_ ⟨rfl, hB_⟩
  obtain rfl := hB_.symm
  refine s_val rfl (v_not rfl) (x_nil (n_then ?_))
  refine x_if rfl ?_ ?_
  · intro c1
    refine x_seq (x_region (s_val rfl (v_assign rfl) (x_nil (n_then (x_ret (r_then (x_done (.inl rfl) (.cons (r_tmp rfl) .nil) ?_)))))))
    refine ⟨_, ⟨?_, rfl⟩, inferInstance⟩
    have hz : ¬ szd n = true := c1
    refine congrArg (Value.int .i64) (Eq.symm ?_)
    rw [qSz, if_neg hz]
  · intro c1
    have hz : szd n = true := Decidable.not_not.1 c1
    have hn := szd_iff.1 hz
    refine x_skip (n_then (x_seq (x_seq (x_region (s_val rfl (v_move rfl) (x_nil (n_then (x_block (x_seq (x_region (s_val rfl (v_eql rfl rfl) (s_val rfl (v_assign rfl) (x_nil (n_then ?_))))))))))))))
    refine x_if rfl ?_ ?_
    · intro c4
      refine x_seq (x_region (s_val rfl (v_move rfl) ?_))
      refine s_val rfl (v_mul rfl rfl (w64 (by omega))) ?_
      refine s_val rfl (v_assign rfl) (x_nil (n_then (x_ret (r_block (r_then (x_done (.inl rfl) (.cons (r_tmp rfl) .nil) ?_))))))
      refine ⟨_, ⟨?_, rfl⟩, inferInstance⟩
      refine congrArg (Value.int .i64) (Eq.symm ?_)
      rw [qSz, if_pos hz]
      (repeat' split) <;> first | rfl | omega
    · intro c4
      refine x_seq (x_region (s_val rfl (v_eql rfl rfl) (s_val rfl (v_assign rfl) (x_nil (n_then ?_)))))
      refine x_if rfl ?_ ?_
      · intro c6
        refine x_seq (x_region (s_val rfl (v_move rfl) ?_))
        refine s_val rfl (v_mul rfl rfl (w64 (by omega))) ?_
        refine s_val rfl (v_add rfl rfl (w64 (by omega))) ?_
        refine s_val rfl (v_assign rfl) (x_nil (n_then (x_ret (r_block (r_then (x_done (.inl rfl) (.cons (r_tmp rfl) .nil) ?_))))))
        refine ⟨_, ⟨?_, rfl⟩, inferInstance⟩
        refine congrArg (Value.int .i64) (Eq.symm ?_)
        rw [qSz, if_pos hz]
        (repeat' split) <;> first | rfl | omega
      · intro c6
        refine x_seq (x_region (s_val rfl (v_eql rfl rfl) (s_val rfl (v_assign rfl) (x_nil (n_then ?_)))))
        refine x_if rfl ?_ ?_
        · intro c8
          refine x_seq (x_region (s_val rfl (v_move rfl) ?_))
          refine s_val rfl (v_mul rfl rfl (w64 (by omega))) ?_
          refine s_val rfl (v_add rfl rfl (w64 (by omega))) ?_
          refine s_val rfl (v_assign rfl) (x_nil (n_then (x_ret (r_block (r_then (x_done (.inl rfl) (.cons (r_tmp rfl) .nil) ?_))))))
          refine ⟨_, ⟨?_, rfl⟩, inferInstance⟩
          refine congrArg (Value.int .i64) (Eq.symm ?_)
          rw [qSz, if_pos hz]
          (repeat' split) <;> first | rfl | omega
        · intro c8
          refine x_skip (n_block (n_then (x_seq (x_region (s_val rfl (v_assign rfl) (x_nil (n_then (x_ret (x_done (.inl rfl) (.cons (r_tmp rfl) .nil) ?_)))))))))
          refine ⟨_, ⟨?_, rfl⟩, inferInstance⟩
          refine congrArg (Value.int .i64) (Eq.symm ?_)
          rw [qSz, if_pos hz]
          (repeat' split) <;> first | rfl | omega
theorem qNone_spec (W0 : World) (R : List HP) (b : Nat) (m : Bool) (s : QS) : Spec Tryz.prog W0 99 [.pointer (some ⟨b, 0, none⟩)] (pt b (qO m s) :: R) (fun v B => v = .bool (!m) ∧ B = pt b (qO m s) :: R) := by
  refine spec_body Tryz.func99 Tryz.ntmps99 rfl rfl ?_
  refine x_seq (x_region (s_val rfl (v_assign rfl) (x_nil (n_then (x_seq (x_region (s_val rfl (v_move rfl) (s_val rfl (v_eql_ptr_nil Tryz.underlying52 rfl rfl) (s_val rfl (v_move rfl) ?_)))))))))
  refine s_or rfl rfl rfl ?_ ?_
  · intro g1_3
    cases g1_3
  · intro g1_3
    refine s_val rfl (v_move rfl) (s_yes rfl rfl (s_val rfl (v_nilCheck rfl) (s_yes rfl rfl ?_)))
    refine s_val rfl (v_fieldAddr rfl Tryz.underlying185 rfl Tryz.sizeOf4 rfl (by first | exact Nat.zero_add _ | rfl)) ?_
    refine s_yes rfl rfl (s_val rfl (v_load Tryz.isAgg4 rfl (cell_own rfl)) ?_)
    refine s_yes rfl rfl (s_val rfl (v_not rfl) (s_val rfl (v_pick_f rfl rfl) (s_val rfl (v_assign rfl) (x_nil (n_then (x_ret (x_done (.inl rfl) (.cons (r_tmp rfl) .nil) ?_)))))))
    exact ⟨_, ⟨rfl, rfl⟩, inferInstance⟩
theorem qNew_spec (W0 : World) (R : List HP) : Spec Tryz.prog W0 70 [] R (fun v B => ∃ b, v = .pointer (some ⟨b, 0, none⟩) ∧ B = pt b (qO true qs0) :: R) := by
  refine spec_body Tryz.func70 Tryz.ntmps70 rfl rfl ?_
  refine x_seq (x_region (s_val rfl (v_assign rfl) (x_nil (n_then (x_seq (x_region (s_val rfl (v_build Tryz.underlying185 Tryz.zeroValue185 (sized_cons Tryz.sizeOf73 (sized_cons Tryz.sizeOf4 sized_nil)) (fil_scal rfl Tryz.sizeOf4 rfl rfl (Nat.le_of_ble_eq_true rfl) SetL.eq fil_nil)) ?_)))))))
  refine s_do rfl (d_boxA rfl) ?_
  rintro _ _ ⟨b1, rfl, rfl⟩
  refine s_val rfl (v_assign rfl) (x_nil (n_then (x_ret (x_done (.inl rfl) (.cons (r_tmp rfl) .nil) ?_))))
  exact ⟨_, ⟨_, rfl, rfl⟩, inferInstance⟩
theorem qBreaks_spec (W0 : World) (R : List HP) (b : Nat) (m : Bool) (s : QS) (w : Int) : Spec Tryz.prog W0 151 [.pointer (some ⟨b, 0, none⟩), .int .i64 w] (pt b (qO m s) :: R) (fun v B => v = .int .i64 w ∧ B = pt b (qO m { s with br := w }) :: R) := by
  refine spec_body Tryz.func151 Tryz.ntmps151 rfl rfl ?_
  refine x_seq (x_region (s_val rfl (v_assign rfl) (x_nil (n_then (x_seq (x_region (s_val rfl (v_move rfl) (s_val rfl (v_move rfl) (s_val rfl (v_nilCheck rfl) ?_)))))))))
  refine s_val rfl (v_fieldAddr rfl Tryz.underlying185 rfl Tryz.sizeOf73 rfl (by first | exact Nat.zero_add _ | rfl)) ?_
  refine s_val rfl (v_fieldAddr rfl Tryz.underlying73 rfl Tryz.sizeOf3 rfl (by first | exact Nat.zero_add _ | rfl)) ?_
  refine s_do0 (d_store Tryz.sizeOf3 rfl rfl rfl (Nat.le_of_ble_eq_true rfl) SetL.eq) ?_
  rintro _ _ rfl
  refine x_nil (n_then (x_seq (x_region (s_val rfl (v_move rfl) (s_val rfl (v_assign rfl) (x_nil (n_then (x_ret (x_done (.inl rfl) (.cons (r_tmp rfl) .nil) ?_)))))))))
  exact ⟨_, ⟨rfl, rfl⟩, inferInstance⟩
theorem qUsable_spec (W0 : World) (R : List HP) (b : Nat) (m : Bool) (s : QS) : Spec Tryz.prog W0 206 [.pointer (some ⟨b, 0, none⟩)] (pt b (qO m s) :: R) (fun v B => v = .bool (s.on && decide (s.br = 0)) ∧ B = pt b (qO m s) :: R) := by
  refine spec_body Tryz.func206 Tryz.ntmps206 rfl rfl ?_
  refine x_seq (x_region (s_val rfl (v_assign rfl) (x_nil (n_then (x_seq (x_region (s_val rfl (v_move rfl) (s_val rfl (v_nilCheck rfl) ?_))))))))
  refine s_val rfl (v_fieldAddr rfl Tryz.underlying185 rfl Tryz.sizeOf73 rfl (by first | exact Nat.zero_add _ | rfl)) ?_
  refine s_val rfl (v_fieldAddr rfl Tryz.underlying73 rfl Tryz.sizeOf4 rfl (by first | exact Nat.zero_add _ | rfl)) ?_
  refine s_val rfl (v_load Tryz.isAgg4 rfl (cell_own rfl)) ?_
  refine s_val rfl (v_move rfl) ?_
  refine s_and rfl rfl rfl ?_ ?_
  · intro g1_6
    refine s_val rfl (v_move rfl) (s_yes rfl rfl (s_val rfl (v_nilCheck rfl) (s_yes rfl rfl ?_)))
    refine s_val rfl (v_fieldAddr rfl Tryz.underlying185 rfl Tryz.sizeOf73 rfl (by first | exact Nat.zero_add _ | rfl)) ?_
    refine s_yes rfl rfl ?_
    refine s_val rfl (v_fieldAddr rfl Tryz.underlying73 rfl Tryz.sizeOf3 rfl (by first | exact Nat.zero_add _ | rfl)) ?_
    refine s_yes rfl rfl (s_val rfl (v_load Tryz.isAgg3 rfl (cell_own rfl)) ?_)
    refine s_yes rfl rfl (s_val rfl (v_eql rfl rfl) (s_val rfl (v_pick_t rfl rfl) (s_val rfl (v_assign rfl) (x_nil (n_then (x_ret (x_done (.inl rfl) (.cons (r_tmp rfl) .nil) ?_)))))))
    refine ⟨_, ⟨?_, rfl⟩, inferInstance⟩
    simp_all [pack] <;> rfl
  · intro g1_6
    refine s_no rfl rfl rfl rfl (s_no rfl rfl rfl rfl (s_no rfl rfl rfl rfl (s_no rfl rfl rfl rfl (s_no rfl rfl rfl rfl (s_val rfl (v_pick_f rfl rfl) (s_val rfl (v_assign rfl) (x_nil (n_then (x_ret (x_done (.inl rfl) (.cons (r_tmp rfl) .nil) ?_))))))))))
    refine ⟨_, ⟨?_, rfl⟩, inferInstance⟩
    simp_all [pack] <;> rfl
theorem qOne_spec (W0 : World) (R : List HP) (n : Nat) (hn : n < 65536) : Spec Tryz.prog W0 208 [.int .i64 n] R (fun v B => v = .int .i64 ((n + 1) % 65536 : Nat) ∧ B = R) := by
  refine spec_body Tryz.func208 Tryz.ntmps208 rfl rfl ?_
  refine x_seq (x_region (s_val rfl (v_assign rfl) (x_nil (n_then (x_seq (x_region (s_val rfl (v_move rfl) ?_)))))))
  refine s_val rfl (v_add rfl rfl (by rw [w64 (by omega)]; omega : IntKind.wrap .i64 ((n : Int) + 1) = ((n + 1 : Nat) : Int))) ?_
  refine s_val rfl (v_rem rfl rfl (by decide) (tmodN (n + 1) 65536)) ?_
  refine s_val rfl (v_assign rfl) (x_nil (n_then (x_ret (x_done (.inl rfl) (.cons (r_tmp rfl) .nil) ?_))))
  exact ⟨_, ⟨rfl, rfl⟩, inferInstance⟩
def wtN (last w : Nat) : Nat := (w % 65536 + 65536 - last) % 65536
theorem qWaiting_spec (W0 : World) (R : List HP) (b : Nat) (m : Bool) (s : QS) (hs : s.last < 65536) (w : Nat) (hw : w < 4294967296) : Spec Tryz.prog W0 243 [.pointer (some ⟨b, 0, none⟩), .int .u32 w] (pt b (qO m s) :: R) (fun v B => v = .int .i64 (wtN s.last w : Nat) ∧ B = pt b (qO m s) :: R) := by
  refine spec_body Tryz.func243 Tryz.ntmps243 rfl rfl ?_
  refine x_seq (x_region (s_val rfl (v_assign rfl) (x_nil (n_then (x_seq (x_region (s_val rfl (v_move rfl) ?_)))))))
  refine s_val rfl (v_rem rfl rfl (by decide) (tmodN w 65536)) ?_
  refine s_val rfl (v_conv Tryz.underlying47 Tryz.underlying3 rfl (w64 (by omega))) ?_
  refine s_val rfl (v_move rfl) (s_val rfl (v_nilCheck rfl) ?_)
  refine s_val rfl (v_fieldAddr rfl Tryz.underlying185 rfl Tryz.sizeOf73 rfl (by first | exact Nat.zero_add _ | rfl)) ?_
  refine s_val rfl (v_fieldAddr rfl Tryz.underlying73 rfl Tryz.sizeOf3 rfl (by first | exact Nat.zero_add _ | rfl)) ?_
  refine s_val rfl (v_load Tryz.isAgg3 rfl (cell_own rfl)) ?_
  refine s_val rfl (v_sub rfl rfl (w64 (by omega))) ?_
  refine s_val rfl (v_add rfl rfl (by rw [w64 (by omega)]; omega : IntKind.wrap .i64 (((w % 65536 : Nat) : Int) - (s.last : Int) + 65536) = ((w % 65536 + 65536 - s.last : Nat) : Int))) ?_
  refine s_val rfl (v_rem rfl rfl (by decide) (tmodN (w % 65536 + 65536 - s.last) 65536)) ?_
  refine s_val rfl (v_assign rfl) (x_nil (n_then (x_ret (x_done (.inl rfl) (.cons (r_tmp rfl) .nil) ?_))))
  exact ⟨_, ⟨rfl, rfl⟩, inferInstance⟩
theorem qState_spec (W0 : World) (R : List HP) (b : Nat) (s : QS) : Spec Tryz.prog W0 28 [.pointer (some ⟨b, 0, none⟩)] (pt b (qO true s) :: R) (fun v B => v = .agg (qsV s).toArray ∧ B = pt b (qO true s) :: R) := by
  refine spec_body Tryz.func28 Tryz.ntmps28 rfl rfl ?_
  refine x_seq (x_region (s_do rfl (d_allocA Tryz.zeroValue73) ?_))
  rintro _ _ ⟨b1, rfl, rfl⟩
  refine x_nil (n_then (x_seq (x_seq (x_region (s_val rfl (v_move rfl) (s_do rfl (d_call1 Tryz.call99 rfl (qNone_spec W0 _ b true s)) ?_))))))
  rintro _ B_ ⟨rfl, hB_⟩
  obtain rfl := hB_.symm
  refine x_nil (n_then ?_)
  refine x_if rfl ?_ ?_
  · intro c1
    exact absurd c1 (by decide)
  · intro c1
    refine x_skip (n_then (x_seq (x_region (s_val rfl (v_move rfl) (s_val rfl (v_nilCheck rfl) ?_)))))
    refine s_val rfl (v_fieldAddr rfl Tryz.underlying185 rfl Tryz.sizeOf73 rfl (by first | exact Nat.zero_add _ | rfl)) ?_
    refine s_val rfl (v_loadPart Tryz.isAgg73 Tryz.sizeOf73 rfl TakeL.eq rfl) ?_
    refine s_do0 (d_storeAll Tryz.sizeOf73 rfl rfl rfl rfl rfl) ?_
    rintro _ _ rfl
    refine x_nil (n_then (x_ret (x_done (.inl rfl) (.cons (r_all Tryz.isAgg73 Tryz.sizeOf73 rfl rfl) .nil) ?_)))
    exact ⟨_, ⟨rfl, rfl⟩, inferInstance⟩
def fitB (len : Nat) (pg : List Pl) (r : Rg3) : Bool := (ownB len pg r.desc (qSz 0 r.n) && ownB len pg r.avail (qSz 1 r.n) && ownB len pg r.used (qSz 2 r.n)) && rgtB r
theorem octB1_spec (W0 : World) (R : List HP) (a : Option Addr) (c w : Nat) (hs : SlA (OwnP W0 R) a 1 (fun x => [wV x]) [w]) (hw : w < 4294967296) :
    Spec Tryz.prog W0 138 [.slice a 1 c] R (fun v B => ∃ a' c', v = .slice a' 4 c' ∧ B = osl 5 1 (.slice a' 4 c') (byV (bytesL [w])) :: R) :=
  octBytes_spec W0 R a c [w] hs (fun x hx => by simp at hx; omega) (by simp)
theorem qPut_spec (W0 : World) (R : List HP) (pv ps pm d : Nat) (fr : List Frm) (pg : List Pl) (h : Pgs pg) (hF : Frs fr) (hd : d < 4096) (pa : Nat) (hpa : pa < 4294967296) (w : Nat) (hw : w < 4294967296) :
    Spec Tryz.prog W0 217 [.pointer (some ⟨pv, 0, none⟩), .int .u32 pa, .int .u32 w] (vwW pv ps pm d fr pg R)
      (fun v B => v = .bool (ownB fr.length pg pa 4) ∧ B = vwW pv ps pm (wrE fr pg pa d 4) (wrF fr pg pa (bytesL [w])) pg R) := by
  refine spec_body Tryz.func217 Tryz.ntmps217 rfl rfl ?_
  refine x_seq (x_region (s_val rfl (v_assign rfl) (x_nil (n_then (x_seq (x_region (s_val rfl (v_move rfl) (s_val rfl (v_move rfl) (s_val rfl (v_move rfl) ?_)))))))))
  refine s_do rfl (d_sliceLit Tryz.underlying45 Tryz.sizeOf47 Tryz.zeroValue47 rfl rfl rfl rfl rfl (by decide) (by decide)) ?_
  rintro _ _ ⟨b1, rfl, rfl⟩
  refine s_do rfl (d_call Tryz.call138 rfl (octB1_spec W0 _ (some ⟨b1, 0, none⟩) _ w (sla_pt (fun _ => rfl) rfl) hw)) ?_
  rintro _ B_ ⟨a', c', rfl, hB_⟩
  obtain rfl := hB_.symm
  refine run_form (E := 5) (sz := 1) (a := a') (c := c') (n := 4) (fun hf => ?_)
  refine s_do rfl (d_call3 Tryz.call67 rfl (viWriteN_spec W0 _ pv ps pm d c' 4 a' fr pg h hF hd pa hpa (bytesL [w]) (by rw [bytesL_len]; rfl) (bytesL_by _) (sla_cells hf (cells_osl (E := 5) (sz := 1) (a := a') (c := c') (n := 4)) (fun _ => rfl) (byV_fm _).symm (by decide)) (by decide))) ?_
  rintro _ B_ ⟨rfl, hB_⟩
  obtain rfl := hB_.symm
  refine s_val rfl (v_assign rfl) (x_nil (n_then (x_ret (x_done (.inl rfl) (.cons (r_tmp rfl) .nil) ?_))))
  exact ⟨_, ⟨rfl, rfl⟩, inferInstance⟩
def wrdW (fr : List Frm) (pg : List Pl) (pa : Nat) : Nat := if ownB fr.length pg pa 4 then leN (rdL fr pg pa 4) else 0
theorem wrdW_lt {fr : List Frm} (hF : Frs fr) (pg : List Pl) (pa : Nat) : wrdW fr pg pa < 4294967296 := by
  unfold wrdW; split
  · have := leN_lt (rdL_by hF pg pa 4); rw [rdL_len] at this; exact this
  · decide
theorem qWord_spec (W0 : World) (R : List HP) (pv ps pm d : Nat) (fr : List Frm) (pg : List Pl) (h : Pgs pg) (hF : Frs fr) (pa : Nat) (hpa : pa < 4294967296) :
    Spec Tryz.prog W0 242 [.pointer (some ⟨pv, 0, none⟩), .int .u32 pa] (vwW pv ps pm d fr pg R)
      (fun v B => v = .tuple #[.int .u32 (wrdW fr pg pa : Nat), .bool (ownB fr.length pg pa 4)] ∧ B = vwW pv ps pm d fr pg R) := by
  refine spec_body Tryz.func242 Tryz.ntmps242 rfl rfl ?_
  refine x_seq (x_region (s_val rfl (v_assign rfl) (s_val rfl (v_assign rfl) (x_nil (n_then (x_seq (x_region (s_val rfl (v_move rfl) (s_val rfl (v_move rfl) (s_do rfl (d_call3 Tryz.call81 rfl (viRead_spec W0 _ pv ps pm d fr pg h hF pa hpa 4)) ?_))))))))))
  rintro _ B_ ⟨a, c, rfl, hB_⟩
  obtain rfl := hB_.symm
  refine s_val rfl (v_move rfl) (s_val rfl (v_extract rfl rfl) (s_val rfl (v_extract rfl rfl) (s_val rfl (v_assign rfl) (s_val rfl (v_assign rfl) (x_nil (n_then (x_seq (x_seq (x_region (s_val rfl (v_move rfl) (s_val rfl (v_not rfl) (x_nil (n_then ?_)))))))))))))
  refine x_if rfl ?_ ?_
  · intro c2
    refine x_seq (x_region (s_val rfl (v_assign rfl) (s_val rfl (v_assign rfl) (x_nil (n_then (x_ret (r_then (x_done (.inl rfl) (.cons (r_tmp rfl) (.cons (r_tmp rfl) .nil)) ?_))))))))
    refine ⟨_, ⟨?_, rfl⟩, inferInstance⟩
    have ho : ownB fr.length pg pa 4 = false := by simpa using c2
    simp [pack, wrdW, ho]
  · intro c2
    have ho : ownB fr.length pg pa 4 = true := Decidable.not_not.1 c2
    have hrd : rdO fr pg pa 4 = rdL fr pg pa 4 := by rw [rdO, if_pos ho]; rfl
    have hln : (rdL fr pg pa 4).length = 4 := rdL_len _ _ _ _
    obtain ⟨hg1, hg2⟩ := getN_all hln
    rw [hrd]
    refine run_form (E := 5) (sz := 1) (a := a) (c := c) (n := (rdL fr pg pa 4).length) (fun hf => ?_)
    obtain ⟨g, rfl⟩ := form_some hf (by intro h0; have := congrArg List.length h0; rw [byV_len, hln] at this; simp at this)
    refine run_cap (E := 5) (sz := 1) (a := some ⟨g, 0, none⟩) (c := c) (n := (rdL fr pg pa 4).length) (fun hcap => ?_)
    refine x_skip (n_then (x_seq (x_region (s_val rfl (v_move rfl) (s_do rfl (d_call Tryz.call205 rfl (octGet_spec W0 _ g 0 c (rdL fr pg pa 4) 0 4 (cells_osl (E := 5) (sz := 1) (a := some ⟨g, 0, none⟩) (c := c) (n := (rdL fr pg pa 4).length)) (rdL_by hF _ _ _) hcap.1 (maxLen_lt hcap.2))) ?_)))))
    rintro _ B_ ⟨rfl, hB_⟩
    obtain rfl := hB_.symm
    rw [hg1, hg2]
    refine s_val rfl (v_move rfl) (s_val rfl (v_extract rfl rfl) (s_val rfl (v_extract rfl rfl) (s_val rfl (v_assign rfl) (s_val rfl (v_assign rfl) (x_nil (n_then (x_seq (x_region (s_val rfl (v_move rfl) (s_val rfl (v_move rfl) (s_val rfl (v_eql rfl rfl) (s_val rfl (v_assign rfl) (s_val rfl (v_assign rfl) (x_nil (n_then (x_ret (x_done (.inl rfl) (.cons (r_tmp rfl) (.cons (r_tmp rfl) .nil)) ?_)))))))))))))))))
    refine ⟨_, ⟨?_, rfl⟩, inferInstance⟩
    simp [pack, wrdW, ho]
theorem qRead_spec (W0 : World) (R : List HP) (bv bb pv ps pm d : Nat) (bad : Int) (fr : List Frm) (pg : List Pl) (h : Pgs pg) (hF : Frs fr) (pa : Nat) (hpa : pa < 4294967296) :
    Spec Tryz.prog W0 241 [.int .u32 pa, .pointer (some ⟨bv, 0, none⟩), .pointer (some ⟨bb, 0, none⟩)] (pt bv (cob [.pointer (some ⟨pv, 0, none⟩)] 51) :: pt bb (cob [.int .i64 bad] 3) :: vwW pv ps pm d fr pg R)
      (fun v B => v = .int .u32 (wrdW fr pg pa : Nat) ∧ B = pt bv (cob [.pointer (some ⟨pv, 0, none⟩)] 51) :: pt bb (cob [.int .i64 (if ownB fr.length pg pa 4 then bad else 5)] 3) :: vwW pv ps pm d fr pg R) := by
  by_cases ho : ownB fr.length pg pa 4 = true
  · rw [if_pos ho]
    refine spec_body Tryz.func241 Tryz.ntmps241 rfl rfl ?_
    refine x_seq (x_region (s_val rfl (v_assign rfl) (x_nil (n_then (x_seq (x_region (s_val rfl (v_load Tryz.isAgg51 rfl (cell_own rfl)) ?_)))))))
    refine s_val rfl (v_move rfl) (s_do rfl (d_call3 Tryz.call242 rfl (qWord_spec W0 _ pv ps pm d fr pg h hF pa hpa)) ?_)
    rintro _ B_ ⟨rfl, hB_⟩
    obtain rfl := hB_.symm
    refine s_val rfl (v_move rfl) (s_val rfl (v_extract rfl rfl) (s_val rfl (v_extract rfl rfl) (s_val rfl (v_assign rfl) (s_val rfl (v_assign rfl) (x_nil (n_then (x_seq (x_seq (x_region (s_val rfl (v_move rfl) (s_val rfl (v_not rfl) (x_nil (n_then ?_)))))))))))))
    refine x_if rfl ?_ ?_
    · intro c2
      exact absurd ho c2
    · intro c2
      refine x_skip (n_then (x_seq (x_region (s_val rfl (v_move rfl) (s_val rfl (v_assign rfl) (x_nil (n_then (x_ret (x_done (.inl rfl) (.cons (r_tmp rfl) .nil) ?_)))))))))
      exact ⟨_, ⟨rfl, rfl⟩, inferInstance⟩
  · rw [if_neg ho]
    refine spec_body Tryz.func241 Tryz.ntmps241 rfl rfl ?_
    refine x_seq (x_region (s_val rfl (v_assign rfl) (x_nil (n_then (x_seq (x_region (s_val rfl (v_load Tryz.isAgg51 rfl (cell_own rfl)) ?_)))))))
    refine s_val rfl (v_move rfl) (s_do rfl (d_call3 Tryz.call242 rfl (qWord_spec W0 _ pv ps pm d fr pg h hF pa hpa)) ?_)
    rintro _ B_ ⟨rfl, hB_⟩
    obtain rfl := hB_.symm
    refine s_val rfl (v_move rfl) (s_val rfl (v_extract rfl rfl) (s_val rfl (v_extract rfl rfl) (s_val rfl (v_assign rfl) (s_val rfl (v_assign rfl) (x_nil (n_then (x_seq (x_seq (x_region (s_val rfl (v_move rfl) (s_val rfl (v_not rfl) (x_nil (n_then ?_)))))))))))))
    refine x_if rfl ?_ ?_
    · intro c2
      refine x_region (s_do0 (d_store Tryz.sizeOf3 rfl rfl rfl (Nat.le_of_ble_eq_true rfl) SetL.eq) ?_)
      rintro _ _ rfl
      refine x_nil (n_then (x_seq (x_region (s_val rfl (v_move rfl) (s_val rfl (v_assign rfl) (x_nil (n_then (x_ret (x_done (.inl rfl) (.cons (r_tmp rfl) .nil) ?_)))))))))
      exact ⟨_, ⟨rfl, rfl⟩, inferInstance⟩
    · intro c2
      exact absurd (Decidable.not_not.1 c2) ho
end Go.Proofs.YtncegikenkpcmaaGreat
namespace Go.Proofs.YtncegikenkpcmaaGreat
open Go.RowKit
set_option linter.unusedSimpArgs false
set_option linter.unusedVariables false
set_option maxRecDepth 20000
theorem d_callv5 {P : Program} {W0 : World} {N : FSz} {e : Env} {A R R1 R2 R3 R4 : List HP} {vs us cs : List Value} {K1 K2 K3 K4 K5 X1 X2 X3 X4 X5 : Type} {r1 : K1 → X1 → HP} {b1 : K1} {x1 : X1} {r2 : K2 → X2 → HP} {b2 : K2} {x2 : X2} {r3 : K3 → X3 → HP} {b3 : K3} {x3 : X3} {r4 : K4 → X4 → HP} {b4 : K4} {x4 : X4} {r5 : K5 → X5 → HP} {b5 : K5} {x5 : X5}
    {f : FuncId} {xs : Array Operand} {ats : Array TypeId} {Post : Value → List HP → Prop} {fx : Operand} (hf : ev e fx = some (.func (.func f) us.toArray cs.toArray)) (hc : ∀ args w, (callFunc f args).run P w = .ok (.enter f args) w) (hx : evs e xs.toList = some vs)
    (hs : Spec P W0 f (us ++ vs ++ cs) (r1 b1 x1 :: r2 b2 x2 :: r3 b3 x3 :: r4 b4 x4 :: r5 b5 x5 :: R) Post) [h1 : Tk r1 b1 A x1 R1] [h2 : Tk r2 b2 R1 x2 R2] [h3 : Tk r3 b3 R2 x3 R3] [h4 : Tk r4 b4 R3 x4 R4] [h5 : Tk r5 b5 R4 x5 R] : Does P W0 N e A (.call { callee := .value fx, args := xs, argTypes := ats }) Post :=
  does_perm perm5 (d_callv hf hc hx hs)
def hdA (sa last n : Nat) : Nat := sa + 4 + 4 * (last % n)
def hdR (fr : List Frm) (pg : List Pl) (sa last n : Nat) : Nat × Bool × Int :=
  if ownB fr.length pg sa 4 then
    (if n < wtN last (wrdW fr pg sa) then (0, false, 7) else if wtN last (wrdW fr pg sa) = 0 then (0, false, 0) else
      if ownB fr.length pg (hdA sa last n) 4 then (if n ≤ wrdW fr pg (hdA sa last n) then (0, false, 1) else (wrdW fr pg (hdA sa last n), true, 0)) else (0, false, 5))
  else (0, false, 5)
theorem qHead_spec (W0 : World) (R : List HP) (b pv ps pm d : Nat) (fr : List Frm) (pg : List Pl) (h : Pgs pg) (hF : Frs fr) (sd sa su n last put : Nat) (on : Bool) (br : Int) (hn : n = 2 ∨ n = 4 ∨ n = 8) (ha : sa ≤ 1000) (hl : last < 65536) :
    Spec Tryz.prog W0 207 [.pointer (some ⟨b, 0, none⟩), .pointer (some ⟨pv, 0, none⟩)] (pt b (qO true ⟨⟨sd, sa, su, n⟩, on, br, last, put⟩) :: vwW pv ps pm d fr pg R)
      (fun v B => v = .tuple #[.int .i64 ((hdR fr pg sa last n).1 : Nat), .bool (hdR fr pg sa last n).2.1, .int .i64 (hdR fr pg sa last n).2.2] ∧ B = pt b (qO true ⟨⟨sd, sa, su, n⟩, on, br, last, put⟩) :: vwW pv ps pm d fr pg R) := by
  have hm := Nat.mod_lt last (show 0 < n by omega)
  have hA : hdA sa last n = sa + 4 + 4 * (last % n) := rfl
  have hw1 := wrdW_lt hF pg sa
  have hw2 := wrdW_lt hF pg (hdA sa last n)
  refine spec_body Tryz.func207 Tryz.ntmps207 rfl rfl ?_
  refine x_seq (x_region (s_do rfl (d_box rfl rfl) ?_))
  rintro _ _ ⟨b1, rfl, rfl⟩
  refine s_val rfl (v_assign rfl) (s_val rfl (v_assign rfl) (s_val rfl (v_assign rfl) (x_nil (n_then (x_seq (x_region (s_do rfl (d_alloc Tryz.zeroValue3 rfl) ?_)))))))
  rintro _ _ ⟨b2, rfl, rfl⟩
  refine s_do0 (d_store Tryz.sizeOf3 rfl rfl rfl (Nat.le_of_ble_eq_true rfl) SetL.eq) ?_
  rintro _ _ rfl
  refine x_nil (n_then (x_seq (x_region (s_val rfl (v_mkFunc rfl rfl) ?_))))
  refine s_val rfl (v_assign rfl) (x_nil (n_then (x_seq (x_region (s_val rfl (v_move rfl) (s_val rfl (v_move rfl) (s_val rfl (v_move rfl) (s_val rfl (v_nilCheck rfl) ?_))))))))
  refine s_val rfl (v_fieldAddr rfl Tryz.underlying185 rfl Tryz.sizeOf73 rfl (by first | exact Nat.zero_add _ | rfl)) ?_
  refine s_val rfl (v_fieldAddr rfl Tryz.underlying73 rfl Tryz.sizeOf71 rfl (by first | exact Nat.zero_add _ | rfl)) ?_
  refine s_val rfl (v_fieldAddr rfl Tryz.underlying71 rfl Tryz.sizeOf47 rfl (by first | exact Nat.zero_add _ | rfl)) ?_
  refine s_val rfl (v_load Tryz.isAgg47 rfl (cell_own rfl)) ?_
  refine s_do rfl (d_callv5 rfl Tryz.call241 rfl (qRead_spec W0 _ b1 b2 pv ps pm d 0 fr pg h hF sa (by omega))) ?_
  rintro _ B_ ⟨rfl, hB_⟩
  obtain rfl := hB_.symm
  refine s_do rfl (d_call1 Tryz.call243 rfl (qWaiting_spec W0 _ b true ⟨⟨sd, sa, su, n⟩, on, br, last, put⟩ hl _ hw1)) ?_
  rintro _ B_ ⟨rfl, hB_⟩
  obtain rfl := hB_.symm
  refine s_val rfl (v_assign rfl) (x_nil (n_then (x_seq (x_block (x_seq (x_region (s_val rfl (v_load Tryz.isAgg3 rfl (cell_own rfl)) ?_)))))))
  refine s_val rfl (v_neq rfl rfl) (s_val rfl (v_assign rfl) (x_nil (n_then ?_)))
  refine x_if rfl ?_ ?_
  · intro c4
    have ho : ¬ ownB fr.length pg sa 4 = true := fun q => c4 (by rw [if_pos q])
    refine x_seq ?_
    refine x_draw [(b2, 0, _)] 4 mixed rfl (sc_own sc_end) (fun hS => ?_)
    refine d_take 0 rfl rfl (by kernel_rfl) (by kernel_rfl) (by kernel_rfl) rfl hS (v_load Tryz.isAgg3 rfl (cell_sc0 (k := 0) rfl rfl)) ?_
    refine d_take 1 rfl rfl (by kernel_rfl) (by kernel_rfl) (by kernel_rfl) rfl hS (v_assign rfl) ?_
    refine d_take 2 rfl rfl (by kernel_rfl) (by kernel_rfl) (by kernel_rfl) rfl hS (v_assign rfl) ?_
    refine d_take 3 rfl rfl (by kernel_rfl) (by kernel_rfl) (by kernel_rfl) rfl hS (v_assign rfl) ?_
    refine d_done (by kernel_rfl) ?_; clear hS
    refine n_then (x_ret (r_block (r_then (x_done (.inl rfl) (.cons (r_tmp rfl) (.cons (r_tmp rfl) (.cons (r_tmp rfl) .nil))) ?_))))
    refine ⟨_, ⟨?_, rfl⟩, inferInstance⟩
    rw [hdR, if_neg ho, if_neg ho]; rfl
  · intro c4
    have ho : ownB fr.length pg sa 4 = true := Decidable.byContradiction fun q => c4 (by rw [if_neg q]; decide)
    rw [if_pos ho]
    refine x_seq (x_region (s_val rfl (v_move rfl) (s_val rfl (v_move rfl) (s_val rfl (v_nilCheck rfl) ?_))))
    refine s_val rfl (v_fieldAddr rfl Tryz.underlying185 rfl Tryz.sizeOf73 rfl (by first | exact Nat.zero_add _ | rfl)) ?_
    refine s_val rfl (v_fieldAddr rfl Tryz.underlying73 rfl Tryz.sizeOf71 rfl (by first | exact Nat.zero_add _ | rfl)) ?_
    refine s_val rfl (v_fieldAddr rfl Tryz.underlying71 rfl Tryz.sizeOf3 rfl (by first | exact Nat.zero_add _ | rfl)) ?_
    refine s_val rfl (v_load Tryz.isAgg3 rfl (cell_own rfl)) ?_
    refine s_val rfl (v_gtr rfl rfl) (s_val rfl (v_assign rfl) (x_nil (n_then ?_)))
    refine x_if rfl ?_ ?_
    · intro c6
      dsimp only at c6
      have k6 : n < wtN last (wrdW fr pg sa) := by omega
      refine x_seq (x_region (s_val rfl (v_assign rfl) (s_val rfl (v_assign rfl) (s_val rfl (v_assign rfl) (x_nil (n_then (x_ret (r_block (r_then (x_done (.inl rfl) (.cons (r_tmp rfl) (.cons (r_tmp rfl) (.cons (r_tmp rfl) .nil))) ?_))))))))))
      refine ⟨_, ⟨?_, rfl⟩, inferInstance⟩
      simp only [hdR, if_pos ho, if_pos k6]; rfl
    · intro c6
      dsimp only at c6
      have k6 : ¬ n < wtN last (wrdW fr pg sa) := by omega
      refine x_seq (x_region (s_val rfl (v_move rfl) (s_val rfl (v_eql rfl rfl) (s_val rfl (v_assign rfl) (x_nil (n_then ?_))))))
      refine x_if rfl ?_ ?_
      · intro c8
        dsimp only at c8
        have k8 : wtN last (wrdW fr pg sa) = 0 := by omega
        refine x_seq (x_region (s_val rfl (v_assign rfl) (s_val rfl (v_assign rfl) (s_val rfl (v_assign rfl) (x_nil (n_then (x_ret (r_block (r_then (x_done (.inl rfl) (.cons (r_tmp rfl) (.cons (r_tmp rfl) (.cons (r_tmp rfl) .nil))) ?_))))))))))
        refine ⟨_, ⟨?_, rfl⟩, inferInstance⟩
        simp only [hdR, if_pos ho, if_neg k6, if_pos k8]; rfl
      · intro c8
        dsimp only at c8
        have k8 : ¬ wtN last (wrdW fr pg sa) = 0 := by omega
        refine x_skip (n_block (n_then (x_seq ?_)))
        refine x_draw [(b, 0, _)] 25 mixed rfl (sc_own sc_end) (fun hS => ?_)
        refine d_take 0 rfl rfl (by kernel_rfl) (by kernel_rfl) (by kernel_rfl) rfl hS (v_move rfl) ?_
        refine d_take 1 rfl rfl (by kernel_rfl) (by kernel_rfl) (by kernel_rfl) rfl hS (v_move rfl) ?_
        refine d_take 2 rfl rfl (by kernel_rfl) (by kernel_rfl) (by kernel_rfl) rfl hS (v_nilCheck rfl) ?_
        refine d_take 3 rfl rfl (by kernel_rfl) (by kernel_rfl) (by kernel_rfl) rfl hS (v_fieldAddr rfl Tryz.underlying185 rfl Tryz.sizeOf73 rfl (by first | exact Nat.zero_add _ | rfl)) ?_
        refine d_take 4 rfl rfl (by kernel_rfl) (by kernel_rfl) (by kernel_rfl) rfl hS (v_fieldAddr rfl Tryz.underlying73 rfl Tryz.sizeOf71 rfl (by first | exact Nat.zero_add _ | rfl)) ?_
        refine d_take 5 rfl rfl (by kernel_rfl) (by kernel_rfl) (by kernel_rfl) rfl hS (v_fieldAddr rfl Tryz.underlying71 rfl Tryz.sizeOf47 rfl (by first | exact Nat.zero_add _ | rfl)) ?_
        refine d_take 6 rfl rfl (by kernel_rfl) (by kernel_rfl) (by kernel_rfl) rfl hS (v_load Tryz.isAgg47 rfl (cell_sc0 (k := 0) rfl rfl)) ?_
        refine d_take 7 rfl rfl (by kernel_rfl) (by kernel_rfl) (by kernel_rfl) rfl hS (v_add rfl rfl (by rw [w32u (by omega)]; omega : IntKind.wrap .u32 ((sa : Int) + 4) = ((sa + 4 : Nat) : Int))) ?_
        refine d_take 8 rfl rfl (by kernel_rfl) (by kernel_rfl) (by kernel_rfl) rfl hS (v_move rfl) ?_
        refine d_take 9 rfl rfl (by kernel_rfl) (by kernel_rfl) (by kernel_rfl) rfl hS (v_nilCheck rfl) ?_
        refine d_take 10 rfl rfl (by kernel_rfl) (by kernel_rfl) (by kernel_rfl) rfl hS (v_fieldAddr rfl Tryz.underlying185 rfl Tryz.sizeOf73 rfl (by first | exact Nat.zero_add _ | rfl)) ?_
        refine d_take 11 rfl rfl (by kernel_rfl) (by kernel_rfl) (by kernel_rfl) rfl hS (v_fieldAddr rfl Tryz.underlying73 rfl Tryz.sizeOf3 rfl (by first | exact Nat.zero_add _ | rfl)) ?_
        refine d_take 12 rfl rfl (by kernel_rfl) (by kernel_rfl) (by kernel_rfl) rfl hS (v_load Tryz.isAgg3 rfl (cell_sc0 (k := 0) rfl rfl)) ?_
        refine d_take 13 rfl rfl (by kernel_rfl) (by kernel_rfl) (by kernel_rfl) rfl hS (v_move rfl) ?_
        refine d_take 14 rfl rfl (by kernel_rfl) (by kernel_rfl) (by kernel_rfl) rfl hS (v_nilCheck rfl) ?_
        refine d_take 15 rfl rfl (by kernel_rfl) (by kernel_rfl) (by kernel_rfl) rfl hS (v_fieldAddr rfl Tryz.underlying185 rfl Tryz.sizeOf73 rfl (by first | exact Nat.zero_add _ | rfl)) ?_
        refine d_take 16 rfl rfl (by kernel_rfl) (by kernel_rfl) (by kernel_rfl) rfl hS (v_fieldAddr rfl Tryz.underlying73 rfl Tryz.sizeOf71 rfl (by first | exact Nat.zero_add _ | rfl)) ?_
        refine d_take 17 rfl rfl (by kernel_rfl) (by kernel_rfl) (by kernel_rfl) rfl hS (v_fieldAddr rfl Tryz.underlying71 rfl Tryz.sizeOf3 rfl (by first | exact Nat.zero_add _ | rfl)) ?_
        refine d_take 18 rfl rfl (by kernel_rfl) (by kernel_rfl) (by kernel_rfl) rfl hS (v_load Tryz.isAgg3 rfl (cell_sc0 (k := 0) rfl rfl)) ?_
        refine d_take 19 rfl rfl (by kernel_rfl) (by kernel_rfl) (by kernel_rfl) rfl hS (v_rem rfl rfl (show ((n : Nat) : Int) ≠ 0 by omega) (tmodN last n)) ?_
        refine d_take 20 rfl rfl (by kernel_rfl) (by kernel_rfl) (by kernel_rfl) rfl hS (v_conv Tryz.underlying3 Tryz.underlying47 rfl (w32u (by omega))) ?_
        refine d_take 21 rfl rfl (by kernel_rfl) (by kernel_rfl) (by kernel_rfl) rfl hS (v_mul rfl rfl (by rw [w32u (by omega)]; omega : IntKind.wrap .u32 (4 * ((last % n : Nat) : Int)) = ((4 * (last % n) : Nat) : Int))) ?_
        refine d_take 22 rfl rfl (by kernel_rfl) (by kernel_rfl) (by kernel_rfl) rfl hS (v_add rfl rfl (by rw [w32u (by omega), hA]; omega : IntKind.wrap .u32 (((sa + 4 : Nat) : Int) + ((4 * (last % n) : Nat) : Int)) = ((hdA sa last n : Nat) : Int))) ?_
        refine d_one 23 (by kernel_rfl) rfl rfl (d_callv5 rfl Tryz.call241 rfl (qRead_spec W0 _ b1 b2 pv ps pm d 0 fr pg h hF (hdA sa last n) (by omega))) rfl ?_; clear hS
        rintro _ B_ ⟨rfl, hB_⟩
        obtain rfl := hB_.symm
        refine ⟨(sc_own sc_end), fun hS => ?_⟩
        refine d_take 24 rfl rfl (by kernel_rfl) (by kernel_rfl) (by kernel_rfl) rfl hS (v_assign rfl) ?_
        refine d_done (by kernel_rfl) ?_; clear hS
        refine n_then (x_seq (x_block (x_seq (x_region (s_val rfl (v_load Tryz.isAgg3 rfl (cell_own rfl)) ?_)))))
        refine s_val rfl (v_neq rfl rfl) (s_val rfl (v_assign rfl) (x_nil (n_then ?_)))
        refine x_if rfl ?_ ?_
        · intro c11
          have ho2 : ¬ ownB fr.length pg (hdA sa last n) 4 = true := fun q => c11 (by rw [if_pos q])
          refine x_seq ?_
          refine x_draw [(b2, 0, _)] 4 mixed rfl (sc_own sc_end) (fun hS => ?_)
          refine d_take 0 rfl rfl (by kernel_rfl) (by kernel_rfl) (by kernel_rfl) rfl hS (v_load Tryz.isAgg3 rfl (cell_sc0 (k := 0) rfl rfl)) ?_
          refine d_take 1 rfl rfl (by kernel_rfl) (by kernel_rfl) (by kernel_rfl) rfl hS (v_assign rfl) ?_
          refine d_take 2 rfl rfl (by kernel_rfl) (by kernel_rfl) (by kernel_rfl) rfl hS (v_assign rfl) ?_
          refine d_take 3 rfl rfl (by kernel_rfl) (by kernel_rfl) (by kernel_rfl) rfl hS (v_assign rfl) ?_
          refine d_done (by kernel_rfl) ?_; clear hS
          refine n_then (x_ret (r_block (r_then (x_done (.inl rfl) (.cons (r_tmp rfl) (.cons (r_tmp rfl) (.cons (r_tmp rfl) .nil))) ?_))))
          refine ⟨_, ⟨?_, rfl⟩, inferInstance⟩
          simp only [hdR, if_pos ho, if_neg k6, if_neg k8, if_neg ho2]; rfl
        · intro c11
          have ho2 : ownB fr.length pg (hdA sa last n) 4 = true := Decidable.byContradiction fun q => c11 (by rw [if_neg q]; decide)
          refine x_seq (x_region (s_val rfl (v_move rfl) (s_val rfl (v_move rfl) (s_val rfl (v_nilCheck rfl) ?_))))
          refine s_val rfl (v_fieldAddr rfl Tryz.underlying185 rfl Tryz.sizeOf73 rfl (by first | exact Nat.zero_add _ | rfl)) ?_
          refine s_val rfl (v_fieldAddr rfl Tryz.underlying73 rfl Tryz.sizeOf71 rfl (by first | exact Nat.zero_add _ | rfl)) ?_
          refine s_val rfl (v_fieldAddr rfl Tryz.underlying71 rfl Tryz.sizeOf3 rfl (by first | exact Nat.zero_add _ | rfl)) ?_
          refine s_val rfl (v_load Tryz.isAgg3 rfl (cell_own rfl)) ?_
          refine s_val rfl (v_conv Tryz.underlying3 Tryz.underlying47 rfl (show IntKind.wrap .u32 (n : Int) = (n : Int) from w32u (by omega))) ?_
          refine s_val rfl (v_geq rfl rfl) (s_val rfl (v_assign rfl) (x_nil (n_then ?_)))
          refine x_if rfl ?_ ?_
          · intro c13
            have k13 : n ≤ wrdW fr pg (hdA sa last n) := by omega
            refine x_seq (x_region (s_val rfl (v_assign rfl) (s_val rfl (v_assign rfl) (s_val rfl (v_assign rfl) (x_nil (n_then (x_ret (r_block (r_then (x_done (.inl rfl) (.cons (r_tmp rfl) (.cons (r_tmp rfl) (.cons (r_tmp rfl) .nil))) ?_))))))))))
            refine ⟨_, ⟨?_, rfl⟩, inferInstance⟩
            simp only [hdR, if_pos ho, if_neg k6, if_neg k8, if_pos ho2, if_pos k13]; rfl
          · intro c13
            have k13 : ¬ n ≤ wrdW fr pg (hdA sa last n) := by omega
            refine x_skip (n_block (n_then (x_seq (x_region (s_val rfl (v_move rfl) ?_)))))
            refine s_val rfl (v_conv Tryz.underlying47 Tryz.underlying3 rfl (w64 (by omega))) ?_
            refine s_val rfl (v_assign rfl) (s_val rfl (v_assign rfl) (s_val rfl (v_assign rfl) (x_nil (n_then (x_ret (x_done (.inl rfl) (.cons (r_tmp rfl) (.cons (r_tmp rfl) (.cons (r_tmp rfl) .nil))) ?_))))))
            refine ⟨_, ⟨?_, rfl⟩, inferInstance⟩
            simp only [hdR, if_pos ho, if_neg k6, if_neg k8, if_pos ho2, if_neg k13]; rfl
def nxR (fr : List Frm) (pg : List Pl) (s : QS) : Nat × Bool × Int :=
  if s.on && decide (s.br = 0) then (if (hdR fr pg s.r.avail s.last s.r.n.toNat).2.2 ≠ 0 then (0, false, (hdR fr pg s.r.avail s.last s.r.n.toNat).2.2) else hdR fr pg s.r.avail s.last s.r.n.toNat) else (0, false, s.br)
def nxS (fr : List Frm) (pg : List Pl) (s : QS) : QS :=
  if s.on && decide (s.br = 0) then (if (hdR fr pg s.r.avail s.last s.r.n.toNat).2.2 ≠ 0 then { s with br := (hdR fr pg s.r.avail s.last s.r.n.toNat).2.2 } else if (hdR fr pg s.r.avail s.last s.r.n.toNat).2.1 then { s with last := (s.last + 1) % 65536 } else s) else s
structure QOk (s : QS) : Prop where
  n : s.on = true → s.r.n = 2 ∨ s.r.n = 4 ∨ s.r.n = 8
  av : s.on = true → s.r.avail ≤ 1000
  us : s.on = true → s.r.used ≤ 1000
  last : s.last < 65536
  put : s.put < 65536
theorem qNext_spec (W0 : World) (R : List HP) (b pv ps pm d : Nat) (fr : List Frm) (pg : List Pl) (h : Pgs pg) (hF : Frs fr) (s : QS) (hs : QOk s) :
    Spec Tryz.prog W0 149 [.pointer (some ⟨b, 0, none⟩), .pointer (some ⟨pv, 0, none⟩)] (pt b (qO true s) :: vwW pv ps pm d fr pg R)
      (fun v B => v = .tuple #[.int .i64 ((nxR fr pg s).1 : Nat), .bool (nxR fr pg s).2.1, .int .i64 (nxR fr pg s).2.2] ∧ B = pt b (qO true (nxS fr pg s)) :: vwW pv ps pm d fr pg R) := by
  obtain ⟨⟨sd, sa, su, sn⟩, on, br, last, put⟩ := s
  by_cases hu : (on && decide (br = 0)) = true
  · have hu' : on = true ∧ br = 0 := by simpa using hu
    have hon : on = true := hu'.1
    have hN := hs.n hon
    obtain ⟨n, rfl⟩ : ∃ n : Nat, sn = (n : Int) := ⟨sn.toNat, by dsimp only at hN; omega⟩
    have hn : n = 2 ∨ n = 4 ∨ n = 8 := by dsimp only at hN; omega
    have ha : sa ≤ 1000 := hs.av hon
    have hl : last < 65536 := hs.last
    obtain ⟨r, hr⟩ : ∃ r, hdR fr pg sa last n = r := ⟨_, rfl⟩
    simp only [nxR, nxS, if_pos hu, Int.toNat_natCast, hr]
    refine spec_body Tryz.func149 Tryz.ntmps149 rfl rfl ?_
    refine x_seq (x_region (s_val rfl (v_assign rfl) (s_val rfl (v_assign rfl) (s_val rfl (v_assign rfl) (x_nil (n_then (x_seq (x_block (x_seq (x_region (s_val rfl (v_move rfl) (s_do rfl (d_call1 Tryz.call99 rfl (qNone_spec W0 _ b true ⟨⟨sd, sa, su, n⟩, on, br, last, put⟩)) ?_))))))))))))
    rintro _ B_ ⟨rfl, hB_⟩
    obtain rfl := hB_.symm
    refine s_val rfl (v_assign rfl) (x_nil (n_then ?_))
    refine x_if rfl ?_ ?_
    · intro c1
      exact absurd c1 (by decide)
    · intro c1
      refine x_seq (x_region (s_val rfl (v_move rfl) (s_do rfl (d_call1 Tryz.call206 rfl (qUsable_spec W0 _ b true ⟨⟨sd, sa, su, n⟩, on, br, last, put⟩)) ?_)))
      rintro _ B_ ⟨rfl, hB_⟩
      obtain rfl := hB_.symm
      refine s_val rfl (v_not rfl) (s_val rfl (v_assign rfl) (x_nil (n_then ?_)))
      refine x_if rfl ?_ ?_
      · intro c3
        exact absurd hu' c3
      · intro c3
        refine x_skip (n_block (n_then (x_seq (x_region (s_val rfl (v_move rfl) (s_val rfl (v_move rfl) (s_do rfl (d_call4 Tryz.call207 rfl (qHead_spec W0 _ b pv ps pm d fr pg h hF sd sa su n last put on br hn ha hl)) ?_)))))))
        rintro _ B_ ⟨rfl, hB_⟩
        obtain rfl := hB_.symm
        rw [hr]
        refine s_val rfl (v_move rfl) (s_val rfl (v_extract rfl rfl) (s_val rfl (v_extract rfl rfl) (s_val rfl (v_extract rfl rfl) (s_val rfl (v_assign rfl) (s_val rfl (v_assign rfl) (s_val rfl (v_assign rfl) (x_nil (n_then (x_seq (x_seq (x_region (s_val rfl (v_move rfl) (s_val rfl (v_neq rfl rfl) (x_nil (n_then ?_)))))))))))))))
        refine x_if rfl ?_ ?_
        · intro c6
          rw [if_pos c6, if_pos c6]
          refine x_seq (x_region (s_val rfl (v_assign rfl) (x_nil (n_then (x_seq (x_region (s_val rfl (v_move rfl) (s_val rfl (v_move rfl) (s_val rfl (v_move rfl) (s_do rfl (d_callv1 rfl Tryz.call151 rfl (qBreaks_spec W0 _ b true ⟨⟨sd, sa, su, n⟩, on, br, last, put⟩ r.2.2)) ?_))))))))))
          rintro _ B_ ⟨rfl, hB_⟩
          obtain rfl := hB_.symm
          refine s_val rfl (v_assign rfl) (s_val rfl (v_assign rfl) (s_val rfl (v_assign rfl) (x_nil (n_then (x_ret (r_then (x_done (.inl rfl) (.cons (r_tmp rfl) (.cons (r_tmp rfl) (.cons (r_tmp rfl) .nil))) ?_)))))))
          exact ⟨_, ⟨rfl, rfl⟩, inferInstance⟩
        · intro c6
          rw [if_neg c6, if_neg c6]
          refine x_skip (n_then (x_seq (x_seq (x_region (s_val rfl (v_move rfl) (x_nil (n_then ?_)))))))
          refine x_if rfl ?_ ?_
          · intro c9
            rw [if_pos c9]
            refine x_region (s_val rfl (v_move rfl) (s_val rfl (v_move rfl) (s_val rfl (v_nilCheck rfl) ?_)))
            refine s_val rfl (v_fieldAddr rfl Tryz.underlying185 rfl Tryz.sizeOf73 rfl (by first | exact Nat.zero_add _ | rfl)) ?_
            refine s_val rfl (v_fieldAddr rfl Tryz.underlying73 rfl Tryz.sizeOf3 rfl (by first | exact Nat.zero_add _ | rfl)) ?_
            refine s_val rfl (v_load Tryz.isAgg3 rfl (cell_own rfl)) ?_
            refine s_do rfl (d_call Tryz.call208 rfl (qOne_spec W0 _ last hl)) ?_
            rintro _ B_ ⟨rfl, hB_⟩
            obtain rfl := hB_.symm
            refine s_val rfl (v_nilCheck rfl) ?_
            refine s_val rfl (v_fieldAddr rfl Tryz.underlying185 rfl Tryz.sizeOf73 rfl (by first | exact Nat.zero_add _ | rfl)) ?_
            refine s_val rfl (v_fieldAddr rfl Tryz.underlying73 rfl Tryz.sizeOf3 rfl (by first | exact Nat.zero_add _ | rfl)) ?_
            refine s_do0 (d_store Tryz.sizeOf3 rfl rfl rfl (Nat.le_of_ble_eq_true rfl) SetL.eq) ?_
            rintro _ _ rfl
            refine x_nil (n_then (x_seq (x_region (s_val rfl (v_move rfl) (s_val rfl (v_move rfl) (s_val rfl (v_assign rfl) (s_val rfl (v_assign rfl) (s_val rfl (v_assign rfl) (x_nil (n_then (x_ret (x_done (.inl rfl) (.cons (r_tmp rfl) (.cons (r_tmp rfl) (.cons (r_tmp rfl) .nil))) ?_))))))))))))
            refine ⟨_, ⟨?_, rfl⟩, inferInstance⟩
            have hz : r.2.2 = 0 := Decidable.not_not.1 c6
            rw [hz]; rfl
          · intro c9
            rw [if_neg c9]
            refine x_skip (n_then (x_seq (x_region (s_val rfl (v_move rfl) (s_val rfl (v_move rfl) (s_val rfl (v_assign rfl) (s_val rfl (v_assign rfl) (s_val rfl (v_assign rfl) (x_nil (n_then (x_ret (x_done (.inl rfl) (.cons (r_tmp rfl) (.cons (r_tmp rfl) (.cons (r_tmp rfl) .nil))) ?_))))))))))))
            refine ⟨_, ⟨?_, rfl⟩, inferInstance⟩
            have hz : r.2.2 = 0 := Decidable.not_not.1 c6
            rw [hz]; rfl
  · have hu' : ¬ (on = true ∧ br = 0) := by simpa using hu
    simp only [nxR, nxS, if_neg hu]
    refine spec_body Tryz.func149 Tryz.ntmps149 rfl rfl ?_
    refine x_seq (x_region (s_val rfl (v_assign rfl) (s_val rfl (v_assign rfl) (s_val rfl (v_assign rfl) (x_nil (n_then (x_seq (x_block (x_seq (x_region (s_val rfl (v_move rfl) (s_do rfl (d_call1 Tryz.call99 rfl (qNone_spec W0 _ b true ⟨⟨sd, sa, su, sn⟩, on, br, last, put⟩)) ?_))))))))))))
    rintro _ B_ ⟨rfl, hB_⟩
    obtain rfl := hB_.symm
    refine s_val rfl (v_assign rfl) (x_nil (n_then ?_))
    refine x_if rfl ?_ ?_
    · intro c1
      exact absurd c1 (by decide)
    · intro c1
      refine x_seq (x_region (s_val rfl (v_move rfl) (s_do rfl (d_call1 Tryz.call206 rfl (qUsable_spec W0 _ b true ⟨⟨sd, sa, su, sn⟩, on, br, last, put⟩)) ?_)))
      rintro _ B_ ⟨rfl, hB_⟩
      obtain rfl := hB_.symm
      refine s_val rfl (v_not rfl) (s_val rfl (v_assign rfl) (x_nil (n_then ?_)))
      refine x_if rfl ?_ ?_
      · intro c3
        refine x_seq ?_
        refine x_draw [(b, 0, _)] 8 mixed rfl (sc_own sc_end) (fun hS => ?_)
        refine d_take 0 rfl rfl (by kernel_rfl) (by kernel_rfl) (by kernel_rfl) rfl hS (v_move rfl) ?_
        refine d_take 1 rfl rfl (by kernel_rfl) (by kernel_rfl) (by kernel_rfl) rfl hS (v_nilCheck rfl) ?_
        refine d_take 2 rfl rfl (by kernel_rfl) (by kernel_rfl) (by kernel_rfl) rfl hS (v_fieldAddr rfl Tryz.underlying185 rfl Tryz.sizeOf73 rfl (by first | exact Nat.zero_add _ | rfl)) ?_
        refine d_take 3 rfl rfl (by kernel_rfl) (by kernel_rfl) (by kernel_rfl) rfl hS (v_fieldAddr rfl Tryz.underlying73 rfl Tryz.sizeOf3 rfl (by first | exact Nat.zero_add _ | rfl)) ?_
        refine d_take 4 rfl rfl (by kernel_rfl) (by kernel_rfl) (by kernel_rfl) rfl hS (v_load Tryz.isAgg3 rfl (cell_sc0 (k := 0) rfl rfl)) ?_
        refine d_take 5 rfl rfl (by kernel_rfl) (by kernel_rfl) (by kernel_rfl) rfl hS (v_assign rfl) ?_
        refine d_take 6 rfl rfl (by kernel_rfl) (by kernel_rfl) (by kernel_rfl) rfl hS (v_assign rfl) ?_
        refine d_take 7 rfl rfl (by kernel_rfl) (by kernel_rfl) (by kernel_rfl) rfl hS (v_assign rfl) ?_
        refine d_done (by kernel_rfl) ?_; clear hS
        refine n_then (x_ret (r_block (r_then (x_done (.inl rfl) (.cons (r_tmp rfl) (.cons (r_tmp rfl) (.cons (r_tmp rfl) .nil))) ?_))))
        exact ⟨_, ⟨rfl, rfl⟩, inferInstance⟩
      · intro c3
        exact absurd (Decidable.not_not.1 c3) hu'
end Go.Proofs.YtncegikenkpcmaaGreat
namespace Go.Proofs.YtncegikenkpcmaaGreat
open Go.RowKit
set_option linter.unusedSimpArgs false
set_option linter.unusedVariables false
set_option maxRecDepth 20000
theorem fit_no {len : Nat} {pg : List Pl} {r : Rg3} {i : Nat} (hi : i < 3) (h : ¬ ownB len pg (rgAt r i) (qSz i r.n) = true) : fitB len pg r = false := by
  have h3 : i = 0 ∨ i = 1 ∨ i = 2 := by omega
  have h' : ownB len pg (rgAt r i) (qSz i r.n) = false := by simpa using h
  rw [fitB]
  rcases h3 with rfl | rfl | rfl
  · rw [show ownB len pg r.desc (qSz 0 r.n) = false from h']; simp
  · rw [show ownB len pg r.avail (qSz 1 r.n) = false from h']; simp
  · rw [show ownB len pg r.used (qSz 2 r.n) = false from h']; simp
theorem fit_yes {len : Nat} {pg : List Pl} {r : Rg3} (h : ∀ j, j < 3 → ownB len pg (rgAt r j) (qSz j r.n) = true) : fitB len pg r = rgtB r := by
  rw [fitB, show ownB len pg r.desc (qSz 0 r.n) = true from h 0 (by decide), show ownB len pg r.avail (qSz 1 r.n) = true from h 1 (by decide), show ownB len pg r.used (qSz 2 r.n) = true from h 2 (by decide)]; rfl
theorem rgAt_lt {r : Rg3} (hr : r.ok) {i : Nat} (hi : i < 3) : rgAt r i < 4294967296 := by
  have h3 : i = 0 ∨ i = 1 ∨ i = 2 := by omega
  rcases h3 with rfl | rfl | rfl
  · exact hr.desc
  · exact hr.avail
  · exact hr.used
theorem qFits_spec (W0 : World) (R : List HP) (pv ps pm d : Nat) (fr : List Frm) (pg : List Pl) (h : Pgs pg) (r : Rg3) (hr : r.ok) :
    Spec Tryz.prog W0 139 [.pointer (some ⟨pv, 0, none⟩), .agg (rgV r).toArray] (vwW pv ps pm d fr pg R) (fun v B => v = .bool (fitB fr.length pg r) ∧ B = vwW pv ps pm d fr pg R) := by
  refine spec_body Tryz.func139 Tryz.ntmps139 rfl rfl ?_
  refine x_seq (x_region (s_do rfl (d_boxA rfl) ?_))
  rintro _ _ ⟨b1, rfl, rfl⟩
  refine s_val rfl (v_assign rfl) (x_nil (n_then (x_seq (x_seq (x_region ?_)))))
  refine s_val rfl (v_fieldAddr rfl Tryz.underlying71 rfl Tryz.sizeOf47 rfl (by first | exact Nat.zero_add _ | rfl)) ?_
  refine s_val rfl (v_load Tryz.isAgg47 rfl (cell_own rfl)) ?_
  refine s_val rfl (v_fieldAddr rfl Tryz.underlying71 rfl Tryz.sizeOf47 rfl (by first | exact Nat.zero_add _ | rfl)) ?_
  refine s_val rfl (v_load Tryz.isAgg47 rfl (cell_own rfl)) ?_
  refine s_val rfl (v_fieldAddr rfl Tryz.underlying71 rfl Tryz.sizeOf47 rfl (by first | exact Nat.zero_add _ | rfl)) ?_
  refine s_val rfl (v_load Tryz.isAgg47 rfl (cell_own rfl)) ?_
  refine s_val rfl (v_buildArr Tryz.underlying288 Tryz.sizeOf47 Tryz.zeroValue288 rfl rfl rfl rfl) ?_
  refine s_val rfl (v_move rfl) (x_nil (n_then (x_block ?_)))
  refine x_loop (fun i : Nat => i ≤ 3 ∧ ∀ j, j < i → ownB fr.length pg (rgAt r j) (qSz j r.n) = true) (fun i => [(0, .pointer (some ⟨pv, 0, none⟩)), (3, .pointer (some ⟨b1, 0, none⟩)), (13, .agg ((List.range 3).map fun j => wV (rgAt r j)).toArray), (14, .int .i64 i)]) (fun i => pt b1 (cob (rgV r) 71) :: vwW pv ps pm d fr pg R) (fun i => 3 - i) 0 ?_ ?_ ?_ ?_
  · exact ⟨Nat.zero_le _, fun j hj => by omega⟩
  · repeat (first | exact sub_nil | refine sub_cons rfl ?_)
  · exact inferInstance
  · intro i ⟨hi, hI⟩
    refine x_seq (x_region (s_val rfl (v_lss rfl rfl) (x_nil (n_then (x_seq ?_)))))
    refine x_if rfl ?_ ?_
    · intro c2
      refine x_skip (n_then (x_seq (x_block (x_seq (x_region (s_val rfl (v_move rfl) ?_))))))
      refine s_val rfl (v_index Tryz.underlying288 Tryz.sizeOf47 Tryz.isAgg47 rfl rfl rfl (by omega) (range_get (by omega))) ?_
      refine s_val rfl (v_assign rfl) (s_val rfl (v_assign rfl) (x_nil (n_then (x_seq (x_region (s_val rfl (v_move rfl) (s_val rfl (v_move rfl) (s_val rfl (v_move rfl) ?_))))))))
      refine s_val rfl (v_fieldAddr rfl Tryz.underlying71 rfl Tryz.sizeOf3 rfl (by first | exact Nat.zero_add _ | rfl)) ?_
      refine s_val rfl (v_load Tryz.isAgg3 rfl (cell_own rfl)) ?_
      refine s_do rfl (d_call Tryz.call198 rfl (dsSize_spec W0 _ i r.n)) ?_
      rintro _ B_ ⟨rfl, hB_⟩
      obtain rfl := hB_.symm
      refine s_do rfl (d_call3 Tryz.call132 rfl (viOwn_spec W0 _ pv ps pm d fr pg h (rgAt r i) (rgAt_lt hr (by omega)) (qSz i r.n))) ?_
      rintro _ B_ ⟨rfl, hB_⟩
      obtain rfl := hB_.symm
      refine s_val rfl (v_not rfl) (x_nil (n_then ?_))
      refine x_if rfl ?_ ?_
      · intro c4
        refine x_seq (x_region (s_val rfl (v_assign rfl) (x_nil (n_then (x_ret (r_block (r_then (r_then (r_block (r_then (x_done (.inl rfl) (.cons (r_tmp rfl) .nil) ?_)))))))))))
        refine ⟨_, ⟨?_, rfl⟩, inferInstance⟩
        rw [fit_no (by omega) c4]; rfl
      · intro c4
        have ho := Decidable.not_not.1 c4
        refine x_skip (n_block (n_then (x_region ?_)))
        refine s_val rfl (v_add rfl rfl (by first | exact w64 (by omega) | rfl)) ?_
        refine s_val rfl (v_move rfl) (x_nil (n_then ?_))
        refine inv_intro (i + 1) ?_ ?_ ?_ ?_
        · exact ⟨by omega, fun m hm => by
            rcases Nat.lt_or_ge m i with q | q
            · exact hI m q
            · rw [show m = i by omega]; exact ho⟩
        · omega
        · repeat (first | exact sub_nil | refine sub_cons rfl ?_)
        · exact inferInstance
    · intro c2
      refine x_exit (e_then (e_then (e_block (n_then (x_seq ?_)))))
      obtain rfl : i = 3 := by omega
      refine x_region (s_val rfl (v_loadAll Tryz.isAgg71 Tryz.sizeOf71 rfl rfl) ?_)
      refine s_do rfl (d_call Tryz.call199 rfl (dsRight_spec W0 _ r)) ?_
      rintro _ B_ ⟨rfl, hB_⟩
      obtain rfl := hB_.symm
      refine s_val rfl (v_assign rfl) (x_nil (n_then (x_ret (x_done (.inl rfl) (.cons (r_tmp rfl) .nil) ?_))))
      refine ⟨_, ⟨?_, rfl⟩, inferInstance⟩
      rw [fit_yes hI]; rfl
theorem qLay_spec (W0 : World) (R : List HP) (b pv ps pm d : Nat) (fr : List Frm) (pg : List Pl) (h : Pgs pg) (s : QS) (r : Rg3) (hr : r.ok) (hf : fitB fr.length pg r = true) :
    Spec Tryz.prog W0 71 [.pointer (some ⟨b, 0, none⟩), .pointer (some ⟨pv, 0, none⟩), .agg (rgV r).toArray] (pt b (qO true s) :: vwW pv ps pm d fr pg R)
      (fun v B => v = .int .i64 0 ∧ B = pt b (qO true ⟨r, true, 0, 0, 0⟩) :: vwW pv ps pm d fr pg R) := by
  refine spec_body Tryz.func71 Tryz.ntmps71 rfl rfl ?_
  refine x_seq (x_region (s_do rfl (d_boxA rfl) ?_))
  rintro _ _ ⟨b1, rfl, rfl⟩
  refine s_val rfl (v_assign rfl) (x_nil (n_then (x_seq (x_block (x_seq (x_region (s_val rfl (v_move rfl) (s_do rfl (d_call1 Tryz.call99 rfl (qNone_spec W0 _ b true s)) ?_))))))))
  rintro _ B_ ⟨rfl, hB_⟩
  obtain rfl := hB_.symm
  refine s_val rfl (v_assign rfl) (x_nil (n_then ?_))
  refine x_if rfl ?_ ?_
  · intro c1
    exact absurd c1 (by decide)
  · intro c1
    refine x_seq (x_region (s_val rfl (v_move rfl) (s_val rfl (v_loadAll Tryz.isAgg71 Tryz.sizeOf71 rfl rfl) ?_)))
    refine s_do rfl (d_call3 Tryz.call139 rfl (qFits_spec W0 _ pv ps pm d fr pg h r hr)) ?_
    rintro _ B_ ⟨rfl, hB_⟩
    obtain rfl := hB_.symm
    refine s_val rfl (v_not rfl) (s_val rfl (v_assign rfl) (x_nil (n_then ?_)))
    refine x_if rfl ?_ ?_
    · intro c3
      exact absurd hf c3
    · intro c3
      refine x_skip (n_block (n_then (x_seq (x_region (s_val rfl (v_move rfl) (s_val rfl (v_loadAll Tryz.isAgg71 Tryz.sizeOf71 rfl rfl) ?_))))))
      refine s_val rfl (v_build Tryz.underlying73 Tryz.zeroValue73 (sized_cons Tryz.sizeOf71 (sized_cons Tryz.sizeOf4 (sized_cons Tryz.sizeOf3 (sized_cons Tryz.sizeOf3 (sized_cons Tryz.sizeOf3 sized_nil))))) (fil_agg rfl Tryz.sizeOf71 rfl rfl (Nat.le_of_ble_eq_true rfl) SetRL.eq (fil_scal rfl Tryz.sizeOf4 rfl rfl (Nat.le_of_ble_eq_true rfl) SetL.eq fil_nil))) ?_
      refine s_val rfl (v_nilCheck rfl) ?_
      refine s_val rfl (v_fieldAddr rfl Tryz.underlying185 rfl Tryz.sizeOf73 rfl (by first | exact Nat.zero_add _ | rfl)) ?_
      refine s_do0 (d_storeAgg Tryz.sizeOf73 rfl rfl rfl rfl (Nat.le_of_ble_eq_true rfl) SetRL.eq) ?_
      rintro _ _ rfl
      refine x_nil (n_then (x_seq (x_region (s_val rfl (v_assign rfl) (x_nil (n_then (x_ret (x_done (.inl rfl) (.cons (r_tmp rfl) .nil) ?_))))))))
      exact ⟨_, ⟨rfl, rfl⟩, inferInstance⟩
def pg23 : Nat → List Pl
  | 0 => List.replicate 12 (0, 0)
  | i + 1 => setP (pg23 i) i ((i : Int), 3)
theorem pg23_ok : ∀ i, Pgs (pg23 i)
  | 0 => pgz
  | i + 1 => by rw [pg23]; exact setP_ok (pg23_ok i)
end Go.Proofs.YtncegikenkpcmaaGreat
namespace Go.Proofs.YtncegikenkpcmaaGreat
open Go.RowKit
set_option linter.unusedSimpArgs false
set_option linter.unusedVariables false
set_option maxRecDepth 20000
def u32N (x : Int) : Nat := (x % 4294967296).toNat
theorem u32N_lt (x : Int) : u32N x < 4294967296 := by unfold u32N; omega
theorem wrap_u32N (x : Int) : IntKind.wrap .u32 x = ((u32N x : Nat) : Int) := by
  simp only [IntKind.wrap, IntKind.bits, IntKind.signed, u32N]; simp; omega
structure DnR where
  c : Int
  s : QS
  fr : List Frm
  d : Nat
def dnA (s : QS) : Nat := s.r.used + 4 + 8 * (s.put % s.r.n.toNat)
abbrev dnF1 (fr : List Frm) (pg : List Pl) (s : QS) (h : Nat) : List Frm := wrF fr pg (dnA s) (bytesL [h])
abbrev dnD1 (fr : List Frm) (pg : List Pl) (d : Nat) (s : QS) : Nat := wrE fr pg (dnA s) d 4
abbrev dnF2 (fr : List Frm) (pg : List Pl) (s : QS) (h n : Nat) : List Frm := wrF (dnF1 fr pg s h) pg (dnA s + 4) (bytesL [n])
abbrev dnD2 (fr : List Frm) (pg : List Pl) (d : Nat) (s : QS) (h : Nat) : Nat := wrE (dnF1 fr pg s h) pg (dnA s + 4) (dnD1 fr pg d s) 4
abbrev dnF3 (fr : List Frm) (pg : List Pl) (s : QS) (h n : Nat) : List Frm := wrF (dnF2 fr pg s h n) pg s.r.used (bytesL [(s.put + 1) % 65536])
abbrev dnD3 (fr : List Frm) (pg : List Pl) (d : Nat) (s : QS) (h n : Nat) : Nat := wrE (dnF2 fr pg s h n) pg s.r.used (dnD2 fr pg d s h) 4
def dnX (fr : List Frm) (pg : List Pl) (d : Nat) (s : QS) (h n : Nat) : DnR :=
  if s.on && decide (s.br = 0) then
    (if ownB fr.length pg (dnA s) 4 then
      (if ownB fr.length pg (dnA s + 4) 4 then
        (if ownB fr.length pg s.r.used 4 then ⟨0, { s with put := (s.put + 1) % 65536 }, dnF3 fr pg s h n, dnD3 fr pg d s h n⟩
          else ⟨5, { s with put := (s.put + 1) % 65536, br := 5 }, dnF3 fr pg s h n, dnD3 fr pg d s h n⟩)
        else ⟨5, { s with br := 5 }, dnF2 fr pg s h n, dnD2 fr pg d s h⟩)
      else ⟨5, { s with br := 5 }, dnF1 fr pg s h, dnD1 fr pg d s⟩)
    else ⟨s.br, s, fr, d⟩
theorem dnF1_ok {fr : List Frm} (hF : Frs fr) (pg : List Pl) (s : QS) (h : Nat) : Frs (dnF1 fr pg s h) ∧ (dnF1 fr pg s h).length = fr.length := wrF_ok hF
theorem dnF2_ok {fr : List Frm} (hF : Frs fr) (pg : List Pl) (s : QS) (h n : Nat) : Frs (dnF2 fr pg s h n) ∧ (dnF2 fr pg s h n).length = fr.length := by
  obtain ⟨h1, h2⟩ := dnF1_ok hF pg s h
  exact ⟨(wrF_ok h1).1, (wrF_ok h1).2.trans h2⟩
theorem dnF3_ok {fr : List Frm} (hF : Frs fr) (pg : List Pl) (s : QS) (h n : Nat) : Frs (dnF3 fr pg s h n) ∧ (dnF3 fr pg s h n).length = fr.length := by
  obtain ⟨h1, h2⟩ := dnF2_ok hF pg s h n
  exact ⟨(wrF_ok h1).1, (wrF_ok h1).2.trans h2⟩
theorem dnD_lt {fr : List Frm} {pg : List Pl} {d : Nat} {s : QS} {h n : Nat} (hd : d < 4096) : dnD1 fr pg d s < 4096 ∧ dnD2 fr pg d s h < 4096 ∧ dnD3 fr pg d s h n < 4096 :=
  ⟨wrE_lt hd, wrE_lt (wrE_lt hd), wrE_lt (wrE_lt (wrE_lt hd))⟩
theorem dnX_ok {fr : List Frm} {pg : List Pl} {d : Nat} {s : QS} {h n : Nat} (hF : Frs fr) (hd : d < 4096) (hs : QOk s) :
    Frs (dnX fr pg d s h n).fr ∧ (dnX fr pg d s h n).fr.length = fr.length ∧ (dnX fr pg d s h n).d < 4096 ∧ QOk (dnX fr pg d s h n).s := by
  obtain ⟨d1, d2, d3⟩ := dnD_lt (fr := fr) (pg := pg) (s := s) (h := h) (n := n) hd
  obtain ⟨f1, l1⟩ := dnF1_ok hF pg s h
  obtain ⟨f2, l2⟩ := dnF2_ok hF pg s h n
  obtain ⟨f3, l3⟩ := dnF3_ok hF pg s h n
  have hb : ∀ b, QOk { s with br := b } := fun b => ⟨hs.n, hs.av, hs.us, hs.last, hs.put⟩
  have hp : ∀ b, QOk { s with put := (s.put + 1) % 65536, br := b } := fun b => ⟨hs.n, hs.av, hs.us, hs.last, Nat.mod_lt _ (by decide)⟩
  unfold dnX
  split
  · split
    · split
      · split
        · exact ⟨f3, l3, d3, hp _⟩
        · exact ⟨f3, l3, d3, hp _⟩
      · exact ⟨f2, l2, d2, hb _⟩
    · exact ⟨f1, l1, d1, hb _⟩
  · exact ⟨hF, rfl, hd, hs⟩
theorem dnX_cases (fr : List Frm) (pg : List Pl) (d sd sa su n last put hh nn : Nat) :
    (¬ ownB fr.length pg (dnA ⟨⟨sd, sa, su, n⟩, true, 0, last, put⟩) 4 = true → dnX fr pg d ⟨⟨sd, sa, su, n⟩, true, 0, last, put⟩ hh nn = ⟨5, ⟨⟨sd, sa, su, n⟩, true, 5, last, put⟩, dnF1 fr pg ⟨⟨sd, sa, su, n⟩, true, 0, last, put⟩ hh, dnD1 fr pg d ⟨⟨sd, sa, su, n⟩, true, 0, last, put⟩⟩) ∧
    (ownB fr.length pg (dnA ⟨⟨sd, sa, su, n⟩, true, 0, last, put⟩) 4 = true → ¬ ownB fr.length pg (dnA ⟨⟨sd, sa, su, n⟩, true, 0, last, put⟩ + 4) 4 = true → dnX fr pg d ⟨⟨sd, sa, su, n⟩, true, 0, last, put⟩ hh nn = ⟨5, ⟨⟨sd, sa, su, n⟩, true, 5, last, put⟩, dnF2 fr pg ⟨⟨sd, sa, su, n⟩, true, 0, last, put⟩ hh nn, dnD2 fr pg d ⟨⟨sd, sa, su, n⟩, true, 0, last, put⟩ hh⟩) ∧
    (ownB fr.length pg (dnA ⟨⟨sd, sa, su, n⟩, true, 0, last, put⟩) 4 = true → ownB fr.length pg (dnA ⟨⟨sd, sa, su, n⟩, true, 0, last, put⟩ + 4) 4 = true → ∀ c : Int, c = (if ownB fr.length pg su 4 = true then 0 else 5) → dnX fr pg d ⟨⟨sd, sa, su, n⟩, true, 0, last, put⟩ hh nn = ⟨c, ⟨⟨sd, sa, su, n⟩, true, c, last, (put + 1) % 65536⟩, dnF3 fr pg ⟨⟨sd, sa, su, n⟩, true, 0, last, put⟩ hh nn, dnD3 fr pg d ⟨⟨sd, sa, su, n⟩, true, 0, last, put⟩ hh nn⟩) := by
  refine ⟨fun o1 => ?_, fun o1 o2 => ?_, fun o1 o2 c hc => ?_⟩
  · rw [dnX, if_pos (by rfl), if_neg o1]
  · rw [dnX, if_pos (by rfl), if_pos o1, if_neg o2]
  · subst hc
    rw [dnX, if_pos (by rfl), if_pos o1, if_pos o2]
    by_cases q : ownB fr.length pg su 4 = true
    · rw [if_pos q, if_pos q]
    · rw [if_neg q, if_neg q]
theorem qDone_spec (W0 : World) (R : List HP) (b pv ps pm d : Nat) (fr : List Frm) (pg : List Pl) (h : Pgs pg) (hF : Frs fr) (hd : d < 4096) (s : QS) (hs : QOk s) (x y : Int) :
    Spec Tryz.prog W0 156 [.pointer (some ⟨b, 0, none⟩), .pointer (some ⟨pv, 0, none⟩), .int .i64 x, .int .i64 y] (pt b (qO true s) :: vwW pv ps pm d fr pg R)
      (fun v B => v = .int .i64 (dnX fr pg d s (u32N x) (u32N y)).c ∧ B = pt b (qO true (dnX fr pg d s (u32N x) (u32N y)).s) :: vwW pv ps pm (dnX fr pg d s (u32N x) (u32N y)).d (dnX fr pg d s (u32N x) (u32N y)).fr pg R) := by
  obtain ⟨⟨sd, sa, su, sn⟩, on, br, last, put⟩ := s
  by_cases hu : (on && decide (br = 0)) = true
  · have hu' : on = true ∧ br = 0 := by simpa using hu
    obtain ⟨rfl, rfl⟩ := hu'
    have hN := hs.n rfl
    obtain ⟨n, rfl⟩ : ∃ n : Nat, sn = (n : Int) := ⟨sn.toNat, by dsimp only at hN; omega⟩
    have hn : n = 2 ∨ n = 4 ∨ n = 8 := by dsimp only at hN; omega
    have ha : su ≤ 1000 := hs.us rfl
    have hp : put < 65536 := hs.put
    have hm := Nat.mod_lt put (show 0 < n by omega)
    have hx := u32N_lt x
    have hy := u32N_lt y
    have hA : dnA ⟨⟨sd, sa, su, n⟩, true, 0, last, put⟩ = su + 4 + 8 * (put % n) := rfl
    obtain ⟨hX1, hX2, hX3⟩ := dnX_cases fr pg d sd sa su n last put (u32N x) (u32N y)
    obtain ⟨d1, d2, d3⟩ := dnD_lt (fr := fr) (pg := pg) (s := ⟨⟨sd, sa, su, n⟩, true, 0, last, put⟩) (h := u32N x) (n := u32N y) hd
    obtain ⟨f1, l1⟩ := dnF1_ok hF pg ⟨⟨sd, sa, su, n⟩, true, 0, last, put⟩ (u32N x)
    obtain ⟨f2, l2⟩ := dnF2_ok hF pg ⟨⟨sd, sa, su, n⟩, true, 0, last, put⟩ (u32N x) (u32N y)
    refine spec_body Tryz.func156 Tryz.ntmps156 rfl rfl ?_
    refine x_seq (x_region (s_val rfl (v_assign rfl) (x_nil (n_then (x_seq (x_block (x_seq (x_region (s_val rfl (v_move rfl) (s_do rfl (d_call1 Tryz.call99 rfl (qNone_spec W0 _ b true ⟨⟨sd, sa, su, n⟩, true, 0, last, put⟩)) ?_))))))))))
    rintro _ B_ ⟨rfl, hB_⟩
    obtain rfl := hB_.symm
    refine s_val rfl (v_assign rfl) (x_nil (n_then ?_))
    refine x_if rfl ?_ ?_
    · intro c1
      exact absurd c1 (by decide)
    · intro c1
      refine x_seq (x_region (s_val rfl (v_move rfl) (s_do rfl (d_call1 Tryz.call206 rfl (qUsable_spec W0 _ b true ⟨⟨sd, sa, su, n⟩, true, 0, last, put⟩)) ?_)))
      rintro _ B_ ⟨rfl, hB_⟩
      obtain rfl := hB_.symm
      refine s_val rfl (v_not rfl) (s_val rfl (v_assign rfl) (x_nil (n_then ?_)))
      refine x_if rfl ?_ ?_
      · intro c3
        exact absurd ⟨rfl, rfl⟩ c3
      · intro c3
        refine x_skip (n_block (n_then (x_seq ?_)))
        refine x_draw [(b, 0, _)] 23 mixed rfl (sc_own sc_end) (fun hS => ?_)
        refine d_take 0 rfl rfl (by kernel_rfl) (by kernel_rfl) (by kernel_rfl) rfl hS (v_move rfl) ?_
        refine d_take 1 rfl rfl (by kernel_rfl) (by kernel_rfl) (by kernel_rfl) rfl hS (v_nilCheck rfl) ?_
        refine d_take 2 rfl rfl (by kernel_rfl) (by kernel_rfl) (by kernel_rfl) rfl hS (v_fieldAddr rfl Tryz.underlying185 rfl Tryz.sizeOf73 rfl (by first | exact Nat.zero_add _ | rfl)) ?_
        refine d_take 3 rfl rfl (by kernel_rfl) (by kernel_rfl) (by kernel_rfl) rfl hS (v_fieldAddr rfl Tryz.underlying73 rfl Tryz.sizeOf71 rfl (by first | exact Nat.zero_add _ | rfl)) ?_
        refine d_take 4 rfl rfl (by kernel_rfl) (by kernel_rfl) (by kernel_rfl) rfl hS (v_fieldAddr rfl Tryz.underlying71 rfl Tryz.sizeOf47 rfl (by first | exact Nat.zero_add _ | rfl)) ?_
        refine d_take 5 rfl rfl (by kernel_rfl) (by kernel_rfl) (by kernel_rfl) rfl hS (v_load Tryz.isAgg47 rfl (cell_sc0 (k := 0) rfl rfl)) ?_
        refine d_take 6 rfl rfl (by kernel_rfl) (by kernel_rfl) (by kernel_rfl) rfl hS (v_add rfl rfl (by rw [w32u (by omega)]; omega : IntKind.wrap .u32 ((su : Int) + 4) = ((su + 4 : Nat) : Int))) ?_
        refine d_take 7 rfl rfl (by kernel_rfl) (by kernel_rfl) (by kernel_rfl) rfl hS (v_move rfl) ?_
        refine d_take 8 rfl rfl (by kernel_rfl) (by kernel_rfl) (by kernel_rfl) rfl hS (v_nilCheck rfl) ?_
        refine d_take 9 rfl rfl (by kernel_rfl) (by kernel_rfl) (by kernel_rfl) rfl hS (v_fieldAddr rfl Tryz.underlying185 rfl Tryz.sizeOf73 rfl (by first | exact Nat.zero_add _ | rfl)) ?_
        refine d_take 10 rfl rfl (by kernel_rfl) (by kernel_rfl) (by kernel_rfl) rfl hS (v_fieldAddr rfl Tryz.underlying73 rfl Tryz.sizeOf3 rfl (by first | exact Nat.zero_add _ | rfl)) ?_
        refine d_take 11 rfl rfl (by kernel_rfl) (by kernel_rfl) (by kernel_rfl) rfl hS (v_load Tryz.isAgg3 rfl (cell_sc0 (k := 0) rfl rfl)) ?_
        refine d_take 12 rfl rfl (by kernel_rfl) (by kernel_rfl) (by kernel_rfl) rfl hS (v_move rfl) ?_
        refine d_take 13 rfl rfl (by kernel_rfl) (by kernel_rfl) (by kernel_rfl) rfl hS (v_nilCheck rfl) ?_
        refine d_take 14 rfl rfl (by kernel_rfl) (by kernel_rfl) (by kernel_rfl) rfl hS (v_fieldAddr rfl Tryz.underlying185 rfl Tryz.sizeOf73 rfl (by first | exact Nat.zero_add _ | rfl)) ?_
        refine d_take 15 rfl rfl (by kernel_rfl) (by kernel_rfl) (by kernel_rfl) rfl hS (v_fieldAddr rfl Tryz.underlying73 rfl Tryz.sizeOf71 rfl (by first | exact Nat.zero_add _ | rfl)) ?_
        refine d_take 16 rfl rfl (by kernel_rfl) (by kernel_rfl) (by kernel_rfl) rfl hS (v_fieldAddr rfl Tryz.underlying71 rfl Tryz.sizeOf3 rfl (by first | exact Nat.zero_add _ | rfl)) ?_
        refine d_take 17 rfl rfl (by kernel_rfl) (by kernel_rfl) (by kernel_rfl) rfl hS (v_load Tryz.isAgg3 rfl (cell_sc0 (k := 0) rfl rfl)) ?_
        refine d_take 18 rfl rfl (by kernel_rfl) (by kernel_rfl) (by kernel_rfl) rfl hS (v_rem rfl rfl (show ((n : Nat) : Int) ≠ 0 by omega) (tmodN put n)) ?_
        refine d_take 19 rfl rfl (by kernel_rfl) (by kernel_rfl) (by kernel_rfl) rfl hS (v_conv Tryz.underlying3 Tryz.underlying47 rfl (w32u (by omega))) ?_
        refine d_take 20 rfl rfl (by kernel_rfl) (by kernel_rfl) (by kernel_rfl) rfl hS (v_mul rfl rfl (by rw [w32u (by omega)]; omega : IntKind.wrap .u32 (8 * ((put % n : Nat) : Int)) = ((8 * (put % n) : Nat) : Int))) ?_
        refine d_take 21 rfl rfl (by kernel_rfl) (by kernel_rfl) (by kernel_rfl) rfl hS (v_add rfl rfl (by rw [w32u (by omega), hA]; omega : IntKind.wrap .u32 (((su + 4 : Nat) : Int) + ((8 * (put % n) : Nat) : Int)) = ((dnA ⟨⟨sd, sa, su, n⟩, true, 0, last, put⟩ : Nat) : Int))) ?_
        refine d_take 22 rfl rfl (by kernel_rfl) (by kernel_rfl) (by kernel_rfl) rfl hS (v_assign rfl) ?_
        refine d_done (by kernel_rfl) ?_; clear hS
        refine n_then (x_seq (x_seq (x_region (s_val rfl (v_move rfl) (s_val rfl (v_move rfl) (s_val rfl (v_move rfl) (s_val rfl (v_conv Tryz.underlying3 Tryz.underlying47 rfl (wrap_u32N x)) ?_)))))))
        refine s_do rfl (d_call3 Tryz.call217 rfl (qPut_spec W0 _ pv ps pm d fr pg h hF hd (dnA ⟨⟨sd, sa, su, n⟩, true, 0, last, put⟩) (by omega) (u32N x) hx)) ?_
        rintro _ B_ ⟨rfl, hB_⟩
        obtain rfl := hB_.symm
        refine s_val rfl (v_not rfl) (s_val rfl (v_move rfl) ?_)
        refine s_or rfl rfl rfl ?_ ?_
        · intro g6_7
          refine s_no rfl rfl rfl rfl (s_no rfl rfl rfl rfl (s_no rfl rfl rfl rfl (s_no rfl rfl rfl rfl (s_no rfl rfl rfl rfl (s_no rfl rfl rfl rfl (s_val rfl (v_pick_t rfl rfl) (x_nil (n_then (x_ift rfl (x_seq (x_region (s_val rfl (v_move rfl) (s_do rfl (d_call1 Tryz.call151 rfl (qBreaks_spec W0 _ b true ⟨⟨sd, sa, su, n⟩, true, 0, last, put⟩ 5)) ?_)))))))))))))
          rintro _ B_ ⟨rfl, hB_⟩
          obtain rfl := hB_.symm
          refine s_val rfl (v_assign rfl) (x_nil (n_then (x_ret (r_then (x_done (.inl rfl) (.cons (r_tmp rfl) .nil) ?_)))))
          first
            | (rw [hX1 (by simp_all)]; exact ⟨_, ⟨rfl, rfl⟩, inferInstance⟩)
            | (rw [hX2 (by simp_all) (by simp_all)]; exact ⟨_, ⟨rfl, rfl⟩, inferInstance⟩)
        · intro g6_7
          refine s_val rfl (v_move rfl) (s_yes rfl rfl (s_val rfl (v_move rfl) (s_yes rfl rfl ?_)))
          refine s_val rfl (v_add rfl rfl (by rw [w32u (by omega)]; omega : IntKind.wrap .u32 (((dnA ⟨⟨sd, sa, su, n⟩, true, 0, last, put⟩ : Nat) : Int) + 4) = ((dnA ⟨⟨sd, sa, su, n⟩, true, 0, last, put⟩ + 4 : Nat) : Int))) ?_
          refine s_yes rfl rfl (s_val rfl (v_move rfl) (s_yes rfl rfl (s_val rfl (v_conv Tryz.underlying3 Tryz.underlying47 rfl (wrap_u32N y)) ?_)))
          refine s_yes rfl rfl ?_
          refine s_do rfl (d_call3 Tryz.call217 rfl (qPut_spec W0 _ pv ps pm (dnD1 fr pg d ⟨⟨sd, sa, su, n⟩, true, 0, last, put⟩) (dnF1 fr pg ⟨⟨sd, sa, su, n⟩, true, 0, last, put⟩ (u32N x)) pg h f1 d1 (dnA ⟨⟨sd, sa, su, n⟩, true, 0, last, put⟩ + 4) (by omega) (u32N y) hy)) ?_
          rintro _ B_ ⟨rfl, hB_⟩
          obtain rfl := hB_.symm
          rw [l1]
          refine s_yes rfl rfl (s_val rfl (v_not rfl) (s_val rfl (v_pick_f rfl rfl) (x_nil (n_then ?_))))
          refine x_if rfl ?_ ?_
          · intro c6
            refine x_seq (x_region (s_val rfl (v_move rfl) (s_do rfl (d_call1 Tryz.call151 rfl (qBreaks_spec W0 _ b true ⟨⟨sd, sa, su, n⟩, true, 0, last, put⟩ 5)) ?_)))
            rintro _ B_ ⟨rfl, hB_⟩
            obtain rfl := hB_.symm
            refine s_val rfl (v_assign rfl) (x_nil (n_then (x_ret (r_then (x_done (.inl rfl) (.cons (r_tmp rfl) .nil) ?_)))))
            first
              | (rw [hX1 (by simp_all)]; exact ⟨_, ⟨rfl, rfl⟩, inferInstance⟩)
              | (rw [hX2 (by simp_all) (by simp_all)]; exact ⟨_, ⟨rfl, rfl⟩, inferInstance⟩)
          · intro c6
            refine x_skip (n_then (x_seq (x_region (s_val rfl (v_move rfl) (s_val rfl (v_move rfl) (s_val rfl (v_nilCheck rfl) ?_))))))
            refine s_val rfl (v_fieldAddr rfl Tryz.underlying185 rfl Tryz.sizeOf73 rfl (by first | exact Nat.zero_add _ | rfl)) ?_
            refine s_val rfl (v_fieldAddr rfl Tryz.underlying73 rfl Tryz.sizeOf3 rfl (by first | exact Nat.zero_add _ | rfl)) ?_
            refine s_val rfl (v_load Tryz.isAgg3 rfl (cell_own rfl)) ?_
            refine s_do rfl (d_call Tryz.call208 rfl (qOne_spec W0 _ put hp)) ?_
            rintro _ B_ ⟨rfl, hB_⟩
            obtain rfl := hB_.symm
            refine s_val rfl (v_nilCheck rfl) ?_
            refine s_val rfl (v_fieldAddr rfl Tryz.underlying185 rfl Tryz.sizeOf73 rfl (by first | exact Nat.zero_add _ | rfl)) ?_
            refine s_val rfl (v_fieldAddr rfl Tryz.underlying73 rfl Tryz.sizeOf3 rfl (by first | exact Nat.zero_add _ | rfl)) ?_
            refine s_do0 (d_store Tryz.sizeOf3 rfl rfl rfl (Nat.le_of_ble_eq_true rfl) SetL.eq) ?_
            rintro _ _ rfl
            refine x_nil (n_then (x_seq (x_seq ?_)))
            refine x_draw [(b, 0, _)] 15 mixed rfl (sc_own sc_end) (fun hS => ?_)
            refine d_take 0 rfl rfl (by kernel_rfl) (by kernel_rfl) (by kernel_rfl) rfl hS (v_move rfl) ?_
            refine d_take 1 rfl rfl (by kernel_rfl) (by kernel_rfl) (by kernel_rfl) rfl hS (v_move rfl) ?_
            refine d_take 2 rfl rfl (by kernel_rfl) (by kernel_rfl) (by kernel_rfl) rfl hS (v_nilCheck rfl) ?_
            refine d_take 3 rfl rfl (by kernel_rfl) (by kernel_rfl) (by kernel_rfl) rfl hS (v_fieldAddr rfl Tryz.underlying185 rfl Tryz.sizeOf73 rfl (by first | exact Nat.zero_add _ | rfl)) ?_
            refine d_take 4 rfl rfl (by kernel_rfl) (by kernel_rfl) (by kernel_rfl) rfl hS (v_fieldAddr rfl Tryz.underlying73 rfl Tryz.sizeOf71 rfl (by first | exact Nat.zero_add _ | rfl)) ?_
            refine d_take 5 rfl rfl (by kernel_rfl) (by kernel_rfl) (by kernel_rfl) rfl hS (v_fieldAddr rfl Tryz.underlying71 rfl Tryz.sizeOf47 rfl (by first | exact Nat.zero_add _ | rfl)) ?_
            refine d_take 6 rfl rfl (by kernel_rfl) (by kernel_rfl) (by kernel_rfl) rfl hS (v_load Tryz.isAgg47 rfl (cell_sc0 (k := 0) rfl rfl)) ?_
            refine d_take 7 rfl rfl (by kernel_rfl) (by kernel_rfl) (by kernel_rfl) rfl hS (v_move rfl) ?_
            refine d_take 8 rfl rfl (by kernel_rfl) (by kernel_rfl) (by kernel_rfl) rfl hS (v_nilCheck rfl) ?_
            refine d_take 9 rfl rfl (by kernel_rfl) (by kernel_rfl) (by kernel_rfl) rfl hS (v_fieldAddr rfl Tryz.underlying185 rfl Tryz.sizeOf73 rfl (by first | exact Nat.zero_add _ | rfl)) ?_
            refine d_take 10 rfl rfl (by kernel_rfl) (by kernel_rfl) (by kernel_rfl) rfl hS (v_fieldAddr rfl Tryz.underlying73 rfl Tryz.sizeOf3 rfl (by first | exact Nat.zero_add _ | rfl)) ?_
            refine d_take 11 rfl rfl (by kernel_rfl) (by kernel_rfl) (by kernel_rfl) rfl hS (v_load Tryz.isAgg3 rfl (cell_sc0 (k := 0) rfl rfl)) ?_
            refine d_take 12 rfl rfl (by kernel_rfl) (by kernel_rfl) (by kernel_rfl) rfl hS (v_conv Tryz.underlying3 Tryz.underlying47 rfl (w32u (by omega))) ?_
            refine d_one 13 (by kernel_rfl) rfl rfl (d_call3 Tryz.call217 rfl (qPut_spec W0 _ pv ps pm (dnD2 fr pg d ⟨⟨sd, sa, su, n⟩, true, 0, last, put⟩ (u32N x)) (dnF2 fr pg ⟨⟨sd, sa, su, n⟩, true, 0, last, put⟩ (u32N x) (u32N y)) pg h f2 d2 su (by omega) ((put + 1) % 65536) (by omega))) rfl ?_; clear hS
            rintro _ B_ ⟨rfl, hB_⟩
            obtain rfl := hB_.symm
            rw [l2]
            refine ⟨(sc_own sc_end), fun hS => ?_⟩
            refine d_take 14 rfl rfl (by kernel_rfl) (by kernel_rfl) (by kernel_rfl) rfl hS (v_not rfl) ?_
            refine d_done (by kernel_rfl) ?_; clear hS
            refine n_then ?_
            refine x_if rfl ?_ ?_
            · intro c9
              refine x_seq (x_region (s_val rfl (v_move rfl) (s_do rfl (d_call1 Tryz.call151 rfl (qBreaks_spec W0 _ b true ⟨⟨sd, sa, su, n⟩, true, 0, last, (put + 1) % 65536⟩ 5)) ?_)))
              rintro _ B_ ⟨rfl, hB_⟩
              obtain rfl := hB_.symm
              refine s_val rfl (v_assign rfl) (x_nil (n_then (x_ret (r_then (x_done (.inl rfl) (.cons (r_tmp rfl) .nil) ?_)))))
              rw [hX3 (by simp_all) (by simp_all) 5 (by simp_all)]; exact ⟨_, ⟨rfl, rfl⟩, inferInstance⟩
            · intro c9
              refine x_skip (n_then (x_seq (x_region (s_val rfl (v_assign rfl) (x_nil (n_then (x_ret (x_done (.inl rfl) (.cons (r_tmp rfl) .nil) ?_))))))))
              rw [hX3 (by simp_all) (by simp_all) 0 (by simp_all)]; exact ⟨_, ⟨rfl, rfl⟩, inferInstance⟩
  · have hu' : ¬ (on = true ∧ br = 0) := by simpa using hu
    have hX : dnX fr pg d ⟨⟨sd, sa, su, sn⟩, on, br, last, put⟩ (u32N x) (u32N y) = ⟨br, ⟨⟨sd, sa, su, sn⟩, on, br, last, put⟩, fr, d⟩ := by rw [dnX, if_neg hu]
    rw [hX]
    refine spec_body Tryz.func156 Tryz.ntmps156 rfl rfl ?_
    refine x_seq (x_region (s_val rfl (v_assign rfl) (x_nil (n_then (x_seq (x_block (x_seq (x_region (s_val rfl (v_move rfl) (s_do rfl (d_call1 Tryz.call99 rfl (qNone_spec W0 _ b true ⟨⟨sd, sa, su, sn⟩, on, br, last, put⟩)) ?_))))))))))
    rintro _ B_ ⟨rfl, hB_⟩
    obtain rfl := hB_.symm
    refine s_val rfl (v_assign rfl) (x_nil (n_then ?_))
    refine x_if rfl ?_ ?_
    · intro c1
      exact absurd c1 (by decide)
    · intro c1
      refine x_seq (x_region (s_val rfl (v_move rfl) (s_do rfl (d_call1 Tryz.call206 rfl (qUsable_spec W0 _ b true ⟨⟨sd, sa, su, sn⟩, on, br, last, put⟩)) ?_)))
      rintro _ B_ ⟨rfl, hB_⟩
      obtain rfl := hB_.symm
      refine s_val rfl (v_not rfl) (s_val rfl (v_assign rfl) (x_nil (n_then ?_)))
      refine x_if rfl ?_ ?_
      · intro c3
        refine x_seq (x_region (s_val rfl (v_move rfl) (s_val rfl (v_nilCheck rfl) ?_)))
        refine s_val rfl (v_fieldAddr rfl Tryz.underlying185 rfl Tryz.sizeOf73 rfl (by first | exact Nat.zero_add _ | rfl)) ?_
        refine s_val rfl (v_fieldAddr rfl Tryz.underlying73 rfl Tryz.sizeOf3 rfl (by first | exact Nat.zero_add _ | rfl)) ?_
        refine s_val rfl (v_load Tryz.isAgg3 rfl (cell_own rfl)) ?_
        refine s_val rfl (v_assign rfl) (x_nil (n_then (x_ret (r_block (r_then (x_done (.inl rfl) (.cons (r_tmp rfl) .nil) ?_))))))
        exact ⟨_, ⟨rfl, rfl⟩, inferInstance⟩
      · intro c3
        exact absurd (Decidable.not_not.1 c3) hu'
def bkB (s : QS) (w : Int) : Bool := decide (1 ≤ w ∧ w ≤ 7) && s.on
def bkS (s : QS) (w : Int) : QS := if bkB s w then (if s.br = 0 then { s with br := w } else s) else s
theorem bkS_ok {s : QS} (hs : QOk s) (w : Int) : QOk (bkS s w) := by
  unfold bkS
  split
  · split
    · exact ⟨hs.n, hs.av, hs.us, hs.last, hs.put⟩
    · exact hs
  · exact hs
theorem bkB_iff {s : QS} {w : Int} : bkB s w = true ↔ (1 ≤ w ∧ w ≤ 7) ∧ s.on = true := by simp [bkB]
theorem qBreak_spec (W0 : World) (R : List HP) (b : Nat) (s : QS) (w : Int) : Spec Tryz.prog W0 153 [.pointer (some ⟨b, 0, none⟩), .int .i64 w] (pt b (qO true s) :: R)
    (fun v B => v = .int .i64 (if bkB s w then 0 else 1) ∧ B = pt b (qO true (bkS s w)) :: R) := by
  obtain ⟨⟨sd, sa, su, sn⟩, on, br, last, put⟩ := s
  have hB := bkB_iff (s := ⟨⟨sd, sa, su, sn⟩, on, br, last, put⟩) (w := w)
  dsimp only at hB
  have hno : ¬ ((1 ≤ w ∧ w ≤ 7) ∧ on = true) → bkB ⟨⟨sd, sa, su, sn⟩, on, br, last, put⟩ w = false := fun q => by
    rw [← Bool.not_eq_true, hB]; exact q
  have hn := fun q => show bkS ⟨⟨sd, sa, su, sn⟩, on, br, last, put⟩ w = _ by rw [bkS, hno q, if_neg (by decide)]
  refine spec_body Tryz.func153 Tryz.ntmps153 rfl rfl ?_
  refine x_seq (x_region (s_val rfl (v_assign rfl) (x_nil (n_then (x_seq (x_block (x_seq (x_region (s_val rfl (v_move rfl) (s_do rfl (d_call1 Tryz.call99 rfl (qNone_spec W0 _ b true ⟨⟨sd, sa, su, sn⟩, on, br, last, put⟩)) ?_))))))))))
  rintro _ B_ ⟨rfl, hB_⟩
  obtain rfl := hB_.symm
  refine s_val rfl (v_assign rfl) (x_nil (n_then ?_))
  refine x_if rfl ?_ ?_
  · intro c1
    exact absurd c1 (by decide)
  · intro c1
    refine x_seq (x_seq (x_region (s_val rfl (v_move rfl) (s_val rfl (v_lss rfl rfl) (s_val rfl (v_assign rfl) (x_nil (n_then ?_)))))))
    refine x_if rfl ?_ ?_
    · intro c3
      refine x_skip (n_then (x_ift rfl (x_seq (x_region (s_val rfl (v_assign rfl) (x_nil (n_then (x_ret (r_block (r_then (x_done (.inl rfl) (.cons (r_tmp rfl) .nil) ?_)))))))))))
      first
        | (rw [hn (by omega), hno (by omega)]; exact ⟨_, ⟨rfl, rfl⟩, inferInstance⟩)
        | (rw [hn (by simp_all), hno (by simp_all)]; exact ⟨_, ⟨rfl, rfl⟩, inferInstance⟩)
    · intro c3
      refine x_seq (x_region (s_val rfl (v_move rfl) (s_val rfl (v_gtr rfl rfl) (s_val rfl (v_assign rfl) (x_nil (n_then ?_))))))
      refine x_if rfl ?_ ?_
      · intro c4
        refine x_skip (n_then (x_ift rfl (x_seq (x_region (s_val rfl (v_assign rfl) (x_nil (n_then (x_ret (r_block (r_then (x_done (.inl rfl) (.cons (r_tmp rfl) .nil) ?_)))))))))))
        first
          | (rw [hn (by omega), hno (by omega)]; exact ⟨_, ⟨rfl, rfl⟩, inferInstance⟩)
          | (rw [hn (by simp_all), hno (by simp_all)]; exact ⟨_, ⟨rfl, rfl⟩, inferInstance⟩)
      · intro c4
        refine x_region (s_val rfl (v_move rfl) (s_val rfl (v_nilCheck rfl) ?_))
        refine s_val rfl (v_fieldAddr rfl Tryz.underlying185 rfl Tryz.sizeOf73 rfl (by first | exact Nat.zero_add _ | rfl)) ?_
        refine s_val rfl (v_fieldAddr rfl Tryz.underlying73 rfl Tryz.sizeOf4 rfl (by first | exact Nat.zero_add _ | rfl)) ?_
        refine s_val rfl (v_load Tryz.isAgg4 rfl (cell_own rfl)) ?_
        refine s_val rfl (v_not rfl) (s_val rfl (v_assign rfl) (x_nil (n_then ?_)))
        refine x_if rfl ?_ ?_
        · intro c5
          refine x_seq (x_region (s_val rfl (v_assign rfl) (x_nil (n_then (x_ret (r_block (r_then (x_done (.inl rfl) (.cons (r_tmp rfl) .nil) ?_))))))))
          first
            | (rw [hn (by omega), hno (by omega)]; exact ⟨_, ⟨rfl, rfl⟩, inferInstance⟩)
            | (rw [hn (by simp_all), hno (by simp_all)]; exact ⟨_, ⟨rfl, rfl⟩, inferInstance⟩)
        · intro c5
          refine x_seq (x_region (s_val rfl (v_move rfl) (s_val rfl (v_nilCheck rfl) ?_)))
          refine s_val rfl (v_fieldAddr rfl Tryz.underlying185 rfl Tryz.sizeOf73 rfl (by first | exact Nat.zero_add _ | rfl)) ?_
          refine s_val rfl (v_fieldAddr rfl Tryz.underlying73 rfl Tryz.sizeOf3 rfl (by first | exact Nat.zero_add _ | rfl)) ?_
          refine s_val rfl (v_load Tryz.isAgg3 rfl (cell_own rfl)) ?_
          refine s_val rfl (v_eql rfl rfl) (s_val rfl (v_assign rfl) (x_nil (n_then ?_)))
          refine x_if rfl ?_ ?_
          · intro c7
            refine x_region (s_val rfl (v_move rfl) (s_val rfl (v_move rfl) (s_do rfl (d_call1 Tryz.call151 rfl (qBreaks_spec W0 _ b true ⟨⟨sd, sa, su, sn⟩, on, br, last, put⟩ w)) ?_)))
            rintro _ B_ ⟨rfl, hB_⟩
            obtain rfl := hB_.symm
            refine x_nil (n_block (n_then (x_seq (x_region (s_val rfl (v_assign rfl) (x_nil (n_then (x_ret (x_done (.inl rfl) (.cons (r_tmp rfl) .nil) ?_)))))))))
            have hb : bkB ⟨⟨sd, sa, su, sn⟩, on, br, last, put⟩ w = true := hB.2 ⟨by omega, by simp_all⟩
            have hs : bkS ⟨⟨sd, sa, su, sn⟩, on, br, last, put⟩ w = if br = 0 then ⟨⟨sd, sa, su, sn⟩, on, w, last, put⟩ else ⟨⟨sd, sa, su, sn⟩, on, br, last, put⟩ := by rw [bkS, if_pos hb]
            rw [hs, hb]
            first
              | (rw [if_pos c7]; exact ⟨_, ⟨rfl, rfl⟩, inferInstance⟩)
              | (rw [if_neg c7]; exact ⟨_, ⟨rfl, rfl⟩, inferInstance⟩)
          · intro c7
            refine x_skip (n_block (n_then (x_seq (x_region (s_val rfl (v_assign rfl) (x_nil (n_then (x_ret (x_done (.inl rfl) (.cons (r_tmp rfl) .nil) ?_)))))))))
            have hb : bkB ⟨⟨sd, sa, su, sn⟩, on, br, last, put⟩ w = true := hB.2 ⟨by omega, by simp_all⟩
            have hs : bkS ⟨⟨sd, sa, su, sn⟩, on, br, last, put⟩ w = if br = 0 then ⟨⟨sd, sa, su, sn⟩, on, w, last, put⟩ else ⟨⟨sd, sa, su, sn⟩, on, br, last, put⟩ := by rw [bkS, if_pos hb]
            rw [hs, hb]
            first
              | (rw [if_pos c7]; exact ⟨_, ⟨rfl, rfl⟩, inferInstance⟩)
              | (rw [if_neg c7]; exact ⟨_, ⟨rfl, rfl⟩, inferInstance⟩)
def tkL (fr : List Frm) (pg : List Pl) (s : QS) : List Dsc × Int := wkAll fr pg s.r (nxR fr pg s).1
def tkR (fr : List Frm) (pg : List Pl) (s : QS) : Nat × List Dsc × Bool × Int :=
  if (nxR fr pg s).2.1 then (if (tkL fr pg s).2 ≠ 0 then (0, [], false, (tkL fr pg s).2) else ((nxR fr pg s).1, (tkL fr pg s).1, true, 0)) else (0, [], false, (nxR fr pg s).2.2)
def tkS (fr : List Frm) (pg : List Pl) (s : QS) : QS :=
  if (nxR fr pg s).2.1 then (if (tkL fr pg s).2 ≠ 0 then { nxS fr pg s with br := (tkL fr pg s).2 } else nxS fr pg s) else nxS fr pg s
theorem nxS_r (fr : List Frm) (pg : List Pl) (s : QS) : (nxS fr pg s).r = s.r := by
  unfold nxS; split
  · split
    · rfl
    · split <;> rfl
  · rfl
theorem nxS_ok {fr : List Frm} {pg : List Pl} {s : QS} (hs : QOk s) : QOk (nxS fr pg s) := by
  unfold nxS; split
  · split
    · exact ⟨hs.n, hs.av, hs.us, hs.last, hs.put⟩
    · split
      · exact ⟨hs.n, hs.av, hs.us, Nat.mod_lt _ (by decide), hs.put⟩
      · exact hs
  · exact hs
theorem tkS_ok {fr : List Frm} {pg : List Pl} {s : QS} (hs : QOk s) : QOk (tkS fr pg s) := by
  have h := nxS_ok (fr := fr) (pg := pg) hs
  unfold tkS; split
  · split
    · exact ⟨h.n, h.av, h.us, h.last, h.put⟩
    · exact h
  · exact h
theorem qTake_spec (W0 : World) (R : List HP) (b pv ps pm d : Nat) (fr : List Frm) (pg : List Pl) (h : Pgs pg) (hF : Frs fr) (s : QS) (hs : QOk s) (hr : s.r.ok) :
    Spec Tryz.prog W0 88 [.pointer (some ⟨b, 0, none⟩), .pointer (some ⟨pv, 0, none⟩)] (pt b (qO true s) :: vwW pv ps pm d fr pg R)
      (fun v B => ∃ a c, v = .tuple #[.int .i64 ((tkR fr pg s).1 : Nat), .slice a (tkR fr pg s).2.1.length c, .bool (tkR fr pg s).2.2.1, .int .i64 (tkR fr pg s).2.2.2] ∧
        B = osl 139 4 (.slice a (tkR fr pg s).2.1.length c) ((tkR fr pg s).2.1.flatMap dsV) :: pt b (qO true (tkS fr pg s)) :: vwW pv ps pm d fr pg R) := by
  obtain ⟨x, hx⟩ : ∃ x, nxR fr pg s = x := ⟨_, rfl⟩
  obtain ⟨y, hy⟩ : ∃ y, wkAll fr pg s.r x.1 = y := ⟨_, rfl⟩
  have hq : tkL fr pg s = y := by rw [tkL, hx, hy]
  have hsr := nxS_r fr pg s
  obtain ⟨z, hz⟩ : ∃ z, nxS fr pg s = z := ⟨_, rfl⟩
  rw [hz] at hsr
  simp only [tkR, tkS, hx, hq, hz]
  refine spec_body Tryz.func88 Tryz.ntmps88 rfl rfl ?_
  refine x_seq (x_region (s_val rfl (v_assign rfl) (s_val rfl (v_assign rfl) (s_val rfl (v_assign rfl) (s_val rfl (v_assign rfl) (x_nil (n_then (x_seq (x_region (s_val rfl (v_move rfl) (s_val rfl (v_move rfl) (s_do rfl (d_call4 Tryz.call149 rfl (qNext_spec W0 _ b pv ps pm d fr pg h hF s hs)) ?_))))))))))))
  rintro _ B_ ⟨rfl, hB_⟩
  obtain rfl := hB_.symm
  rw [hx, hz]
  refine s_val rfl (v_move rfl) (s_val rfl (v_extract rfl rfl) (s_val rfl (v_extract rfl rfl) (s_val rfl (v_extract rfl rfl) (s_val rfl (v_assign rfl) (s_val rfl (v_assign rfl) (s_val rfl (v_assign rfl) (x_nil (n_then (x_seq (x_seq (x_region (s_val rfl (v_move rfl) (s_val rfl (v_not rfl) (x_nil (n_then ?_)))))))))))))))
  refine x_if rfl ?_ ?_
  · intro c2
    refine x_seq (x_region (s_val rfl (v_move rfl) (s_val rfl (v_assign rfl) (s_val rfl (v_assign rfl) (s_val rfl (v_assign rfl) (s_val rfl (v_assign rfl) (x_nil (n_then (x_ret (r_then (x_done (.inl rfl) (.cons (r_tmp rfl) (.cons (r_tmp rfl) (.cons (r_tmp rfl) (.cons (r_tmp rfl) .nil)))) ?_)))))))))))
    rw [if_neg c2, if_neg c2]
    exact ⟨_, ⟨none, 0, rfl, rfl⟩, ent_osl_nil⟩
  · intro c2
    have c2' : x.2.1 = true := Decidable.not_not.1 c2
    rw [if_pos c2', if_pos c2']
    refine x_skip (n_then (x_seq (x_region (s_val rfl (v_move rfl) (s_val rfl (v_move rfl) (s_val rfl (v_nilCheck rfl) ?_))))))
    refine s_val rfl (v_fieldAddr rfl Tryz.underlying185 rfl Tryz.sizeOf73 rfl (by first | exact Nat.zero_add _ | rfl)) ?_
    refine s_val rfl (v_fieldAddr rfl Tryz.underlying73 rfl Tryz.sizeOf71 rfl (by first | exact Nat.zero_add _ | rfl)) ?_
    refine s_val rfl (v_loadPart Tryz.isAgg71 Tryz.sizeOf71 rfl TakeL.eq rfl) ?_
    refine s_val rfl (v_move rfl) ?_
    refine s_do rfl (d_call3 Tryz.call150 rfl (chWalk_spec W0 _ pv ps pm d fr pg h hF z.r (by rw [hsr]; exact hr) x.1)) ?_
    rintro _ B_ ⟨a, c, rfl, hB_⟩
    obtain rfl := hB_.symm
    rw [show wkAll fr pg z.r x.1 = y by rw [hsr, hy]]
    refine s_val rfl (v_move rfl) (s_val rfl (v_extract rfl rfl) (s_val rfl (v_extract rfl rfl) (s_val rfl (v_assign rfl) (s_val rfl (v_assign rfl) (x_nil (n_then (x_seq (x_seq (x_region (s_val rfl (v_move rfl) (s_val rfl (v_neq rfl rfl) (x_nil (n_then ?_)))))))))))))
    refine x_if rfl ?_ ?_
    · intro c5
      rw [if_pos c5, if_pos c5]
      refine x_seq (x_region (s_val rfl (v_move rfl) (s_val rfl (v_move rfl) (s_do rfl (d_call1 Tryz.call151 rfl (qBreaks_spec W0 _ b true z y.2)) ?_))))
      rintro _ B_ ⟨rfl, hB_⟩
      obtain rfl := hB_.symm
      refine s_val rfl (v_assign rfl) (s_val rfl (v_assign rfl) (s_val rfl (v_assign rfl) (s_val rfl (v_assign rfl) (x_nil (n_then (x_ret (r_then (x_done (.inl rfl) (.cons (r_tmp rfl) (.cons (r_tmp rfl) (.cons (r_tmp rfl) (.cons (r_tmp rfl) .nil)))) ?_))))))))
      exact ⟨_, ⟨none, 0, rfl, rfl⟩, ent_osl_nil⟩
    · intro c5
      rw [if_neg c5, if_neg c5]
      refine x_skip (n_then (x_seq (x_region (s_val rfl (v_move rfl) (s_val rfl (v_move rfl) (s_val rfl (v_assign rfl) (s_val rfl (v_assign rfl) (s_val rfl (v_assign rfl) (s_val rfl (v_assign rfl) (x_nil (n_then (x_ret (x_done (.inl rfl) (.cons (r_tmp rfl) (.cons (r_tmp rfl) (.cons (r_tmp rfl) (.cons (r_tmp rfl) .nil)))) ?_)))))))))))))
      exact ⟨_, ⟨a, c, rfl, rfl⟩, inferInstance⟩
end Go.Proofs.YtncegikenkpcmaaGreat
namespace Go.Proofs.YtncegikenkpcmaaGreat
open Go.RowKit
set_option linter.unusedSimpArgs false
set_option linter.unusedVariables false
set_option maxRecDepth 20000
def sV (s : ByteArray) : Value := .string s
structure Prt where
  lab : Int
  gu : Int
  l : List ByteArray
instance : Inhabited Prt := ⟨⟨0, 0, []⟩⟩
section
variable {P : Program} {W0 : World} {N : FSz} {K : Act → World → Prop} {e : Env} {A B R R1 R2 R3 R4 : List HP} {p g n : Nat} {ps : List Prt} {f : FuncId} {args : List Value} {Post : Value → List HP → Prop}
end
end Go.Proofs.YtncegikenkpcmaaGreat
namespace Go.Proofs.YtncegikenkpcmaaGreat
open Go.RowKit
set_option linter.unusedSimpArgs false
set_option linter.unusedVariables false
set_option maxRecDepth 20000
def mostP (x : Prt) : Nat := if x.gu = -1 then 64 else 4
end Go.Proofs.YtncegikenkpcmaaGreat
namespace Go.Proofs.YtncegikenkpcmaaGreat
open Go.RowKit
set_option linter.unusedSimpArgs false
set_option linter.unusedVariables false
set_option maxRecDepth 20000
def PrOk (ps : List Prt) : Prop := ps.length ≤ 8 ∧ ∀ x ∈ ps, x.l.length ≤ mostP x
theorem PrOk.at_ {ps : List Prt} (h : PrOk ps) {i : Nat} (hi : i < ps.length) : (ps.getD i default).l.length ≤ mostP (ps.getD i default) := by
  rw [show ps.getD i default = ps[i] by simp [List.getD, hi]]; exact h.2 _ (List.getElem_mem hi)
theorem PrOk.set {ps : List Prt} (h : PrOk ps) {i : Nat} {x : Prt} (hx : x.l.length ≤ mostP x) : PrOk (ps.set i x) := ⟨by simpa using h.1, fun y hy => by
  rcases List.mem_or_eq_of_mem_set hy with q | q
  · exact h.2 y q
  · rw [q]; exact hx⟩
end Go.Proofs.YtncegikenkpcmaaGreat
namespace Go.Proofs.YtncegikenkpcmaaGreat
open Go.RowKit
set_option linter.unusedSimpArgs false
set_option linter.unusedVariables false
set_option maxRecDepth 20000
end Go.Proofs.YtncegikenkpcmaaGreat
namespace Go.Proofs.YtncegikenkpcmaaGreat
open Go.RowKit
set_option linter.unusedSimpArgs false
set_option linter.unusedVariables false
set_option maxRecDepth 20000
end Go.Proofs.YtncegikenkpcmaaGreat
namespace Go.Proofs.YtncegikenkpcmaaGreat
open Go.RowKit
set_option linter.unusedSimpArgs false
set_option linter.unusedVariables false
set_option maxRecDepth 20000
theorem byV_ne {X : List Nat} (h : 0 < X.length) : byV X ≠ [] := fun h0 => by
  have := congrArg List.length h0
  rw [byV_len, List.length_nil] at this; omega
theorem rdO_len {fr : List Frm} {pg : List Pl} {pa : Nat} {n : Int} : (rdO fr pg pa n).length ≤ 512 := by
  unfold rdO; split
  · rename_i h; rw [rdL_len]; have := (ownB_iff.1 h).1; omega
  · simp
def roomN (most : Int) (n : Nat) : Nat := (most - (n : Int)).toNat
def gthK (fr : List Frm) (pg : List Pl) (l : List Dsc) (most : Int) : Nat → List Nat
  | 0 => []
  | k + 1 => let d := l.getD k zD; if wrB d then gthK fr pg l most k else gthK fr pg l most k ++ (rdO fr pg d.addr d.len).take (roomN most (gthK fr pg l most k).length)
theorem gthK_by {fr : List Frm} (hF : Frs fr) (pg : List Pl) (l : List Dsc) (most : Int) : ∀ k, By (gthK fr pg l most k)
  | 0 => fun b hb => by simp [gthK] at hb
  | k + 1 => by
    rw [gthK]; split
    · exact gthK_by hF pg l most k
    · exact (gthK_by hF pg l most k).append ((rdO_by hF _ _ _).take _)
theorem gthK_len (fr : List Frm) (pg : List Pl) (l : List Dsc) (most : Int) : ∀ k, (gthK fr pg l most k).length ≤ 512 * k ∧ ((gthK fr pg l most k).length = 0 ∨ ((gthK fr pg l most k).length : Int) ≤ most)
  | 0 => ⟨by simp [gthK], .inl rfl⟩
  | k + 1 => by
    obtain ⟨h1, h2⟩ := gthK_len fr pg l most k
    have h3 := rdO_len (fr := fr) (pg := pg) (pa := (l.getD k zD).addr) (n := (l.getD k zD).len)
    rw [gthK]; split
    · exact ⟨by omega, h2⟩
    · rw [List.length_append, List.length_take, roomN]; omega
theorem byV_take (l : List Nat) (k : Nat) : byV (l.take k) = (byV l).take k := by simp [byV, List.map_take]
theorem chGather_spec (W0 : World) (R : List HP) (pv ps pm d c : Nat) (a : Option Addr) (fr : List Frm) (pg : List Pl) (h : Pgs pg) (hF : Frs fr) (l : List Dsc) (hs : SlA (OwnP W0 R) a 4 dsV l) (hl : ∀ x ∈ l, x.ok) (hn : l.length ≤ 1000) (most : Int) (hm : -9223372036854775808 ≤ most ∧ most < 9223372036854775808) :
    Spec Tryz.prog W0 210 [.pointer (some ⟨pv, 0, none⟩), .slice a l.length c, .int .i64 most] (vw pv ps pm d fr pg R)
      (fun v B => ∃ a' c', v = .slice a' (gthK fr pg l most l.length).length c' ∧ B = osl 5 1 (.slice a' (gthK fr pg l most l.length).length c') (byV (gthK fr pg l most l.length)) :: vw pv ps pm d fr pg R) := by
  refine spec_body Tryz.func210 Tryz.ntmps210 rfl rfl ?_
  refine x_seq (x_region (s_val rfl (v_assign rfl) (x_nil (n_then (x_seq (x_region (s_val rfl (v_assign rfl) (x_nil (n_then (x_seq (x_seq (x_region (s_val rfl (v_move rfl) (s_val rfl (v_len_slice Tryz.underlying43 rfl) (s_val rfl (v_move rfl) (x_nil (n_then (x_block ?_))))))))))))))))))
  refine x_loop (fun X : Nat × Option Addr × Nat => X.1 ≤ l.length) (fun X => [(0, .pointer (some ⟨pv, 0, none⟩)), (2, .int .i64 most), (7, .slice X.2.1 (gthK fr pg l most X.1).length X.2.2), (13, .slice a l.length c), (14, .int .i64 l.length), (15, .int .i64 X.1)]) (fun X => osl 5 1 (.slice X.2.1 (gthK fr pg l most X.1).length X.2.2) (byV (gthK fr pg l most X.1)) :: vw pv ps pm d fr pg R) (fun X => l.length - X.1) (0, none, 0) ?_ ?_ ?_ ?_
  · simp
  · repeat (first | exact sub_nil | refine sub_cons rfl ?_)
  · exact ent_osl_nil
  · intro ⟨i, a0, c0⟩ hi
    dsimp only at hi ⊢
    obtain ⟨hg1, hg2⟩ := gthK_len fr pg l most i
    refine x_seq (x_region (s_val rfl (v_lss rfl rfl) (x_nil (n_then (x_seq ?_)))))
    refine x_if rfl ?_ ?_
    · intro c3
      refine x_skip (n_then (x_seq (x_block (x_seq ?_))))
      have hi1 : i < l.length := by omega
      obtain ⟨g, o, rfl, hc⟩ := hs.at_ hi1
      have hd := hl _ (List.getElem_mem hi1)
      have hgd : l.getD i zD = l[i] := by simp [List.getD, hi1]
      have ha := hd.addr
      have hle := hd.len
      refine x_region ?_
      refine s_val rfl (v_idx Tryz.underlying43 Tryz.sizeOf139 rfl rfl rfl hi1 (by first | exact Nat.zero_add _ | rfl)) ?_
      refine s_val rfl (v_loadAgg Tryz.isAgg139 Tryz.sizeOf139 rfl hc.weak rfl) ?_
      refine s_do rfl (d_allocA Tryz.zeroValue139) ?_
      rintro _ _ ⟨b1, rfl, rfl⟩
      refine s_do0 (d_storeAll Tryz.sizeOf139 rfl rfl rfl rfl rfl) ?_
      rintro _ _ rfl
      refine x_nil (n_then (x_seq (x_seq (x_region (s_val rfl (v_loadAll Tryz.isAgg139 Tryz.sizeOf139 rfl rfl) ?_)))))
      refine s_do rfl (d_call Tryz.call247 rfl (chWrites_spec W0 _ l[i] hd)) ?_
      rintro _ B_ ⟨rfl, hB_⟩
      obtain rfl := hB_.symm
      refine x_nil (n_then ?_)
      refine x_if rfl ?_ ?_
      · intro c5
        have hst : gthK fr pg l most (i + 1) = gthK fr pg l most i := by rw [gthK]; simp only [hgd]; rw [if_pos c5]
        obtain ⟨a1, rfl⟩ : ∃ x, x = a0 := ⟨a0, rfl⟩
        obtain ⟨c1, rfl⟩ : ∃ x, x = c0 := ⟨c0, rfl⟩
        refine x_exit (e_then (e_block (n_then (x_region ?_))))
        refine s_val rfl (v_add rfl rfl (by first | exact w64 (by omega) | rfl)) ?_
        refine s_val rfl (v_move rfl) (x_nil (n_then ?_))
        refine inv_intro (i + 1, a1, c1) ?_ ?_ ?_ ?_
        · omega
        · omega
        · dsimp only
          rw [hst]
          try rw [List.length_append, List.length_take, Nat.min_comm]
          repeat (first | exact sub_nil | refine sub_cons rfl ?_)
        · dsimp only
          rw [hst]
          first
            | exact inferInstance
            | (rw [List.length_append, List.length_take, Nat.min_comm, byV_append]; exact inferInstance)
      · intro c5
        have hst : gthK fr pg l most (i + 1) = gthK fr pg l most i ++ (rdO fr pg l[i].addr l[i].len).take (roomN most (gthK fr pg l most i).length) := by rw [gthK]; simp only [hgd]; rw [if_neg c5]
        have hr5 := rdO_len (fr := fr) (pg := pg) (pa := l[i].addr) (n := l[i].len)
        have hrm : roomN most (gthK fr pg l most i).length = (most - ((gthK fr pg l most i).length : Int)).toNat := rfl
        refine x_skip (n_then (x_seq (x_region (s_val rfl (v_move rfl) ?_))))
        refine s_val rfl (v_fieldAddr rfl Tryz.underlying139 rfl Tryz.sizeOf47 rfl (by first | exact Nat.zero_add _ | rfl)) ?_
        refine s_val rfl (v_load Tryz.isAgg47 rfl (cell_own rfl)) ?_
        refine s_val rfl (v_fieldAddr rfl Tryz.underlying139 rfl Tryz.sizeOf47 rfl (by first | exact Nat.zero_add _ | rfl)) ?_
        refine s_val rfl (v_load Tryz.isAgg47 rfl (cell_own rfl)) ?_
        refine s_val rfl (v_conv Tryz.underlying47 Tryz.underlying3 rfl (w64 (by omega))) ?_
        refine s_do rfl (d_call3 Tryz.call81 rfl (viRead_spec W0 _ pv ps pm d fr pg h hF l[i].addr ha l[i].len)) ?_
        rintro _ B_ ⟨a2, c2, rfl, hB_⟩
        obtain rfl := hB_.symm
        generalize hX : rdO fr pg l[i].addr l[i].len = X at hst hr5
        generalize hG : gthK fr pg l most i = G at hst hg1 hg2 hrm
        refine run_form (E := 5) (sz := 1) (a := a2) (c := c2) (n := X.length) (fun hf2 => ?_)
        refine run_cap (E := 5) (sz := 1) (a := a2) (c := c2) (n := X.length) (fun hcap => ?_)
        refine s_val rfl (v_move rfl) (s_val rfl (v_extract rfl rfl) (s_val rfl (v_extract rfl rfl) (s_val rfl (v_assign rfl) (s_val rfl (v_assign rfl) (x_nil (n_then (x_seq (x_region (s_val rfl (v_move rfl) (s_val rfl (v_move rfl) (s_val rfl (v_len_slice Tryz.underlying44 rfl) ?_)))))))))))
        refine s_val rfl (v_sub rfl rfl (w64 (by omega))) ?_
        refine s_val rfl (v_max rfl rfl (by rw [hrm]; split <;> omega : (if most - (G.length : Int) > 0 then most - (G.length : Int) else 0) = ((roomN most G.length : Nat) : Int))) ?_
        refine s_val rfl (v_assign rfl) (x_nil (n_then (x_region (s_val rfl (v_move rfl) (s_val rfl (v_move rfl) (s_val rfl (v_move rfl) (s_val rfl (v_len_slice Tryz.underlying44 rfl) (s_val rfl (v_move rfl) ?_))))))))
        refine s_val rfl (v_min rfl rfl (by split <;> omega : (if ((roomN most G.length : Nat) : Int) < (X.length : Int) then ((roomN most G.length : Nat) : Int) else (X.length : Int)) = ((min X.length (roomN most G.length) : Nat) : Int))) ?_
        refine s_val rfl (v_sliceH Tryz.underlying44 Tryz.sizeOf5 rfl rfl rfl (by omega)) ?_
        refine s_do rfl (d_appendS (sz := 1) (by_ := 1) (info := Tryz.t5) Tryz.underlying44 (by kernel_rfl) rfl rfl rfl rfl (by decide) rfl rfl (news := byV (X.take (roomN most G.length))) (by
  rcases hf2 with ⟨q1, q2⟩ | ⟨g2, rfl⟩
  · left
    have : X = [] := by cases X with
      | nil => rfl
      | cons _ _ => simp [byV] at q2
    subst this; simp
  · right
    refine ⟨g2, 0, rfl, fun j u hj => ?_⟩
    rw [byV_take] at hj
    have hjk : j < roomN most G.length := by
      rcases Nat.lt_or_ge j (roomN most G.length) with q | q
      · exact q
      · rw [List.getElem?_eq_none (by rw [List.length_take]; omega)] at hj; cases hj
    rw [List.getElem?_take_of_lt hjk] at hj
    exact cells_osl (E := 5) (sz := 1) (a := some ⟨g2, 0, none⟩) (n := X.length) (c := c2) j u hj) (by rw [byV_len, List.length_take]; omega) (byV_one _) (by simp only [maxLen]; omega) (by omega)) ?_
        rintro _ _ ⟨a1, c1, rfl, rfl⟩
        refine s_val rfl (v_assign rfl) (x_nil (n_block (n_then (x_region ?_))))
        refine s_val rfl (v_add rfl rfl (by first | exact w64 (by omega) | rfl)) ?_
        refine s_val rfl (v_move rfl) (x_nil (n_then ?_))
        refine inv_intro (i + 1, a1, c1) ?_ ?_ ?_ ?_
        · omega
        · omega
        · dsimp only
          rw [hst]
          try rw [List.length_append, List.length_take, Nat.min_comm]
          repeat (first | exact sub_nil | refine sub_cons rfl ?_)
        · dsimp only
          rw [hst]
          first
            | exact inferInstance
            | (rw [List.length_append, List.length_take, Nat.min_comm, byV_append]; exact inferInstance)
    · intro c3
      refine x_exit (e_then (e_then (e_block (n_then (x_seq (x_region (s_val rfl (v_move rfl) (s_val rfl (v_assign rfl) (x_nil (n_then (x_ret (x_done (.inl rfl) (.cons (r_tmp rfl) .nil) ?_))))))))))))
      have e1 : i = l.length := by omega
      subst e1
      exact ⟨_, ⟨a0, c0, rfl, rfl⟩, inferInstance⟩
abbrev ScS := Nat × Nat × List Frm × Nat
def scStep (pg : List Pl) (bs : List Nat) (x : Dsc) (s : ScS) : ScS :=
  if wrB x = true ∧ ownB s.2.2.1.length pg x.addr x.len = true then
    (s.1 - min s.1 x.len, s.2.1 + min (x.len - min s.1 x.len) (bs.length - s.2.1), wrF s.2.2.1 pg (x.addr + min s.1 x.len) ((bs.drop s.2.1).take (min (x.len - min s.1 x.len) (bs.length - s.2.1))), wrE s.2.2.1 pg (x.addr + min s.1 x.len) s.2.2.2 (min (x.len - min s.1 x.len) (bs.length - s.2.1)))
  else s
def scK (fr : List Frm) (pg : List Pl) (d : Nat) (l : List Dsc) (from_ : Int) (bs : List Nat) : Nat → ScS
  | 0 => (from_.toNat, 0, fr, d)
  | i + 1 => scStep pg bs (l.getD i zD) (scK fr pg d l from_ bs i)
structure ScOk (fr : List Frm) (from_ : Int) (bs : List Nat) (s : ScS) : Prop where
  frs : Frs s.2.2.1
  len : s.2.2.1.length = fr.length
  d : s.2.2.2 < 4096
  dn : s.2.1 ≤ bs.length
  sk : s.1 ≤ from_.toNat
theorem scK_ok {fr : List Frm} {pg : List Pl} {d : Nat} {l : List Dsc} {from_ : Int} {bs : List Nat} (hF : Frs fr) (hd : d < 4096) : ∀ i, ScOk fr from_ bs (scK fr pg d l from_ bs i)
  | 0 => ⟨hF, rfl, hd, Nat.zero_le _, Nat.le_refl _⟩
  | i + 1 => by
    have h := scK_ok (pg := pg) (l := l) (from_ := from_) (bs := bs) hF hd i
    rw [scK, scStep]; split
    · have h1 := h.dn
      have h2 := h.sk
      exact ⟨(wrF_ok h.frs).1, (wrF_ok h.frs).2.trans h.len, wrE_lt h.d, by simp only; omega, by simp only; omega⟩
    · exact h
theorem chScatter_spec (W0 : World) (R : List HP) (pv ps pm d c cb : Nat) (a ab : Option Addr) (fr : List Frm) (pg : List Pl) (h : Pgs pg) (hF : Frs fr) (hd : d < 4096) (l : List Dsc) (hs : SlA (OwnP W0 R) a 4 dsV l) (hl : ∀ x ∈ l, x.ok) (hn : l.length ≤ 1000) (from_ : Int) (hf : -9223372036854775808 ≤ from_ ∧ from_ < 9223372036854775808)
    (bs : List Nat) (hb : By bs) (hsb : SlA (OwnP W0 R) ab 1 (fun x => [bV x]) bs) (hbl : bs.length < 9223372036854775808) (hcb : bs.length ≤ cb) :
    Spec Tryz.prog W0 216 [.pointer (some ⟨pv, 0, none⟩), .slice a l.length c, .int .i64 from_, .slice ab bs.length cb] (vw pv ps pm d fr pg R)
      (fun v B => v = .int .i64 ((scK fr pg d l from_ bs l.length).2.1 : Nat) ∧ B = vw pv ps pm (scK fr pg d l from_ bs l.length).2.2.2 (scK fr pg d l from_ bs l.length).2.2.1 pg R) := by
  refine spec_body Tryz.func216 Tryz.ntmps216 rfl rfl ?_
  refine x_seq (x_region (s_val rfl (v_assign rfl) (x_nil (n_then (x_seq (x_region (s_val rfl (v_move rfl) ?_)))))))
  refine s_val rfl (v_max rfl rfl (by split <;> omega : (if from_ > 0 then from_ else 0) = ((from_.toNat : Nat) : Int))) ?_
  refine s_val rfl (v_assign rfl) (s_val rfl (v_assign rfl) (x_nil (n_then (x_seq (x_seq (x_region (s_val rfl (v_move rfl) (s_val rfl (v_len_slice Tryz.underlying43 rfl) (s_val rfl (v_move rfl) (x_nil (n_then (x_block ?_))))))))))))
  refine x_loop (fun i : Nat => i ≤ l.length) (fun i => [(0, .pointer (some ⟨pv, 0, none⟩)), (3, .slice ab bs.length cb), (9, .int .i64 ((scK fr pg d l from_ bs i).1 : Nat)), (10, .int .i64 ((scK fr pg d l from_ bs i).2.1 : Nat)), (18, .slice a l.length c), (19, .int .i64 l.length), (20, .int .i64 i)]) (fun i => vw pv ps pm (scK fr pg d l from_ bs i).2.2.2 (scK fr pg d l from_ bs i).2.2.1 pg R) (fun i => l.length - i) 0 ?_ ?_ ?_ ?_
  · exact Nat.zero_le _
  · repeat (first | exact sub_nil | refine sub_cons rfl ?_)
  · simp only [scK]; exact inferInstance
  · intro i hi
    have hok := scK_ok (pg := pg) (l := l) (from_ := from_) (bs := bs) hF hd i
    have hS : scK fr pg d l from_ bs (i + 1) = scStep pg bs (l.getD i zD) (scK fr pg d l from_ bs i) := rfl
    have hend : ∀ hle : i = l.length, scK fr pg d l from_ bs l.length = scK fr pg d l from_ bs i := fun q => by rw [q]
    generalize scK fr pg d l from_ bs i = s at hok hS hend ⊢
    obtain ⟨sk, dn, fi, di⟩ := s
    obtain ⟨hFi, hli, hdi, hdn, hsk⟩ := hok
    dsimp only at hFi hli hdi hdn hsk ⊢
    refine x_seq (x_region (s_val rfl (v_lss rfl rfl) (x_nil (n_then (x_seq ?_)))))
    refine x_if rfl ?_ ?_
    · intro c3
      refine x_skip (n_then (x_seq (x_block (x_seq ?_))))
      have hi1 : i < l.length := by omega
      obtain ⟨g, o, rfl, hc⟩ := hs.at_ hi1
      have hx := hl _ (List.getElem_mem hi1)
      have hgd : l.getD i zD = l[i] := by simp [List.getD, hi1]
      rw [hgd] at hS
      generalize l[i] = x at hc hx hS
      have ha := hx.addr
      have hle := hx.len
      refine x_region ?_
      refine s_val rfl (v_idx Tryz.underlying43 Tryz.sizeOf139 rfl rfl rfl hi1 (by first | exact Nat.zero_add _ | rfl)) ?_
      refine s_val rfl (v_loadAgg Tryz.isAgg139 Tryz.sizeOf139 rfl hc.weak rfl) ?_
      refine s_do rfl (d_allocA Tryz.zeroValue139) ?_
      rintro _ _ ⟨b1, rfl, rfl⟩
      refine s_do0 (d_storeAll Tryz.sizeOf139 rfl rfl rfl rfl rfl) ?_
      rintro _ _ rfl
      refine x_nil (n_then (x_seq (x_seq (x_region (s_val rfl (v_loadAll Tryz.isAgg139 Tryz.sizeOf139 rfl rfl) ?_)))))
      refine s_do rfl (d_call Tryz.call247 rfl (chWrites_spec W0 _ x hx)) ?_
      rintro _ B_ ⟨rfl, hB_⟩
      obtain rfl := hB_.symm
      refine s_val rfl (v_not rfl) (s_val rfl (v_move rfl) ?_)
      refine s_or rfl rfl rfl ?_ ?_
      · intro g5_4
        have hst : scK fr pg d l from_ bs (i + 1) = (sk, dn, fi, di) := by rw [hS, scStep, if_neg (fun q => g5_4 q.1)]
        refine s_no rfl rfl rfl rfl (s_no rfl rfl rfl rfl (s_no rfl rfl rfl rfl (s_no rfl rfl rfl rfl (s_no rfl rfl rfl rfl (s_no rfl rfl rfl rfl (s_no rfl rfl rfl rfl (s_val rfl (v_pick_t rfl rfl) (x_nil (n_then (x_ift rfl (x_exit (e_then (e_block (n_then (x_region ?_)))))))))))))))
        refine s_val rfl (v_add rfl rfl (by first | exact w64 (by omega) | rfl)) ?_
        refine s_val rfl (v_move rfl) (x_nil (n_then ?_))
        refine inv_intro (i + 1) ?_ ?_ ?_ ?_
        · omega
        · omega
        · rw [hst]; repeat (first | exact sub_nil | refine sub_cons rfl ?_)
        · rw [hst]; exact inferInstance
      · intro g5_4
        refine s_val rfl (v_move rfl) (s_yes rfl rfl ?_)
        refine s_val rfl (v_fieldAddr rfl Tryz.underlying139 rfl Tryz.sizeOf47 rfl (by first | exact Nat.zero_add _ | rfl)) ?_
        refine s_yes rfl rfl (s_val rfl (v_load Tryz.isAgg47 rfl (cell_own rfl)) ?_)
        refine s_yes rfl rfl ?_
        refine s_val rfl (v_fieldAddr rfl Tryz.underlying139 rfl Tryz.sizeOf47 rfl (by first | exact Nat.zero_add _ | rfl)) ?_
        refine s_yes rfl rfl (s_val rfl (v_load Tryz.isAgg47 rfl (cell_own rfl)) ?_)
        refine s_yes rfl rfl ?_
        refine s_val rfl (v_conv Tryz.underlying47 Tryz.underlying3 rfl (w64 (by omega))) ?_
        refine s_yes rfl rfl (s_do rfl (d_call3 Tryz.call132 rfl (viOwn_spec W0 _ pv ps pm di fi pg h x.addr ha x.len)) ?_)
        rintro _ B_ ⟨rfl, hB_⟩
        obtain rfl := hB_.symm
        refine s_yes rfl rfl (s_val rfl (v_not rfl) (s_val rfl (v_pick_f rfl rfl) (x_nil (n_then ?_))))
        refine x_if rfl ?_ ?_
        · intro c5
          have hst : scK fr pg d l from_ bs (i + 1) = (sk, dn, fi, di) := by rw [hS, scStep, if_neg (fun q => c5 q.2)]
          refine x_exit (e_then (e_block (n_then (x_region ?_))))
          refine s_val rfl (v_add rfl rfl (by first | exact w64 (by omega) | rfl)) ?_
          refine s_val rfl (v_move rfl) (x_nil (n_then ?_))
          refine inv_intro (i + 1) ?_ ?_ ?_ ?_
          · omega
          · omega
          · rw [hst]; repeat (first | exact sub_nil | refine sub_cons rfl ?_)
          · rw [hst]; exact inferInstance
        · intro c5
          have hw : wrB x = true := by simpa using g5_4
          have ho : ownB fi.length pg x.addr x.len = true := by simpa using c5
          have hst : scK fr pg d l from_ bs (i + 1) = (sk - min sk x.len, dn + min (x.len - min sk x.len) (bs.length - dn), wrF fi pg (x.addr + min sk x.len) ((bs.drop dn).take (min (x.len - min sk x.len) (bs.length - dn))), wrE fi pg (x.addr + min sk x.len) di (min (x.len - min sk x.len) (bs.length - dn))) := by rw [hS, scStep, if_pos ⟨hw, ho⟩]
          have h512 := (ownB_nat.1 ho).1
          obtain ⟨ah, hah⟩ : ∃ y, min sk x.len = y := ⟨_, rfl⟩
          rw [hah] at hst
          obtain ⟨kk, hkk⟩ : ∃ y, min (x.len - ah) (bs.length - dn) = y := ⟨_, rfl⟩
          rw [hkk] at hst
          refine x_skip (n_then (x_seq (x_region ?_)))
          refine s_val rfl (v_fieldAddr rfl Tryz.underlying139 rfl Tryz.sizeOf47 rfl (by first | exact Nat.zero_add _ | rfl)) ?_
          refine s_val rfl (v_load Tryz.isAgg47 rfl (cell_own rfl)) ?_
          refine s_val rfl (v_conv Tryz.underlying47 Tryz.underlying3 rfl (w64 (by omega))) ?_
          refine s_val rfl (v_assign rfl) (x_nil (n_then (x_seq (x_region (s_val rfl (v_move rfl) (s_val rfl (v_move rfl) ?_))))))
          refine s_val rfl (v_min rfl rfl (by split <;> omega : (if (x.len : Int) < (sk : Int) then (x.len : Int) else (sk : Int)) = ((ah : Nat) : Int))) ?_
          refine s_val rfl (v_assign rfl) (x_nil (n_then (x_seq (x_region (s_val rfl (v_move rfl) (s_val rfl (v_move rfl) ?_))))))
          refine s_val rfl (v_sub rfl rfl (by rw [w64 (by omega)]; omega : IntKind.wrap .i64 ((sk : Int) - (ah : Int)) = ((sk - ah : Nat) : Int))) ?_
          refine s_val rfl (v_assign rfl) (x_nil (n_then (x_seq (x_region (s_val rfl (v_move rfl) (s_val rfl (v_move rfl) ?_))))))
          refine s_val rfl (v_sub rfl rfl (by rw [w64 (by omega)]; omega : IntKind.wrap .i64 ((x.len : Int) - (ah : Int)) = ((x.len - ah : Nat) : Int))) ?_
          refine s_val rfl (v_move rfl) (s_val rfl (v_len_slice Tryz.underlying44 rfl) (s_val rfl (v_move rfl) ?_))
          refine s_val rfl (v_sub rfl rfl (by rw [w64 (by omega)]; omega : IntKind.wrap .i64 ((bs.length : Int) - (dn : Int)) = ((bs.length - dn : Nat) : Int))) ?_
          refine s_val rfl (v_min rfl rfl (by split <;> omega : (if ((bs.length - dn : Nat) : Int) < ((x.len - ah : Nat) : Int) then ((bs.length - dn : Nat) : Int) else ((x.len - ah : Nat) : Int)) = ((kk : Nat) : Int))) ?_
          refine s_val rfl (v_assign rfl) (x_nil (n_then (x_seq ?_)))
          refine x_draw [(b1, 0, _)] 13 mixed rfl (sc_own sc_end) (fun hS => ?_)
          refine d_take 0 rfl rfl (by kernel_rfl) (by kernel_rfl) (by kernel_rfl) rfl hS (v_move rfl) ?_
          refine d_take 1 rfl rfl (by kernel_rfl) (by kernel_rfl) (by kernel_rfl) rfl hS (v_fieldAddr rfl Tryz.underlying139 rfl Tryz.sizeOf47 rfl (by first | exact Nat.zero_add _ | rfl)) ?_
          refine d_take 2 rfl rfl (by kernel_rfl) (by kernel_rfl) (by kernel_rfl) rfl hS (v_load Tryz.isAgg47 rfl (cell_sc0 (k := 0) rfl rfl)) ?_
          refine d_take 3 rfl rfl (by kernel_rfl) (by kernel_rfl) (by kernel_rfl) rfl hS (v_move rfl) ?_
          refine d_take 4 rfl rfl (by kernel_rfl) (by kernel_rfl) (by kernel_rfl) rfl hS (v_conv Tryz.underlying3 Tryz.underlying47 rfl (w32u (by omega))) ?_
          refine d_take 5 rfl rfl (by kernel_rfl) (by kernel_rfl) (by kernel_rfl) rfl hS (v_add rfl rfl (by rw [w32u (by omega)]; omega : IntKind.wrap .u32 ((x.addr : Int) + (ah : Int)) = ((x.addr + ah : Nat) : Int))) ?_
          refine d_take 6 rfl rfl (by kernel_rfl) (by kernel_rfl) (by kernel_rfl) rfl hS (v_move rfl) ?_
          refine d_take 7 rfl rfl (by kernel_rfl) (by kernel_rfl) (by kernel_rfl) rfl hS (v_move rfl) ?_
          refine d_take 8 rfl rfl (by kernel_rfl) (by kernel_rfl) (by kernel_rfl) rfl hS (v_move rfl) ?_
          refine d_take 9 rfl rfl (by kernel_rfl) (by kernel_rfl) (by kernel_rfl) rfl hS (v_move rfl) ?_
          refine d_take 10 rfl rfl (by kernel_rfl) (by kernel_rfl) (by kernel_rfl) rfl hS (v_add rfl rfl (by rw [w64 (by omega)]; omega : IntKind.wrap .i64 ((dn : Int) + (kk : Int)) = ((dn + kk : Nat) : Int))) ?_
          refine d_take 11 rfl rfl (by kernel_rfl) (by kernel_rfl) (by kernel_rfl) rfl hS (v_sliceLHg Tryz.underlying44 Tryz.sizeOf5 rfl rfl rfl rfl rfl (by omega) (by omega)) ?_
          refine d_one 12 (by kernel_rfl) rfl rfl (d_call3 Tryz.call67 rfl (viWriteN_spec W0 _ pv ps pm di _ (dn + kk - dn) _ fi pg h hFi hdi (x.addr + ah) (by omega) ((bs.drop dn).take kk) (by rw [List.length_take, List.length_drop]; omega) ((hb.drop _).take _) (SlA.sub hsb.weak (by omega) hcb) (by omega))) rfl ?_; clear hS
          rintro _ B_ ⟨rfl, hB_⟩
          obtain rfl := hB_.symm
          rw [show dn + kk - dn = kk by omega]
          refine ⟨(sc_own sc_end), fun hS => ?_⟩
          refine d_done (by kernel_rfl) ?_; clear hS
          refine n_then (x_region (s_val rfl (v_move rfl) (s_val rfl (v_move rfl) ?_)))
          refine s_val rfl (v_add rfl rfl (by rw [w64 (by omega)]; omega : IntKind.wrap .i64 ((dn : Int) + (kk : Int)) = ((dn + kk : Nat) : Int))) ?_
          refine s_val rfl (v_assign rfl) (x_nil (n_block (n_then (x_region ?_))))
          refine s_val rfl (v_add rfl rfl (by first | exact w64 (by omega) | rfl)) ?_
          refine s_val rfl (v_move rfl) (x_nil (n_then ?_))
          refine inv_intro (i + 1) ?_ ?_ ?_ ?_
          · omega
          · omega
          · rw [hst]; repeat (first | exact sub_nil | refine sub_cons rfl ?_)
          · rw [hst]; exact inferInstance
    · intro c3
      refine x_exit (e_then (e_then (e_block (n_then (x_seq (x_region (s_val rfl (v_move rfl) (s_val rfl (v_assign rfl) (x_nil (n_then (x_ret (x_done (.inl rfl) (.cons (r_tmp rfl) .nil) ?_))))))))))))
      have e1 := hend (by omega)
      rw [e1]
      exact ⟨_, ⟨rfl, rfl⟩, inferInstance⟩
theorem rcGather_spec (W0 : World) (R : List HP) (qv qs qm d c : Nat) (a : Option Addr) (fr : List Frm) (pg : List Pl) (h : Pgs pg) (hF : Frs fr) (l : List Dsc) (hs : SlA (OwnP W0 R) a 4 dsV l) (hl : ∀ x ∈ l, x.ok) (hn : l.length ≤ 1000) (most : Int) (hm : -9223372036854775808 ≤ most ∧ most < 9223372036854775808) :
    Spec Tryz.prog W0 91 [.pointer (some ⟨qv, 0, none⟩), .slice a l.length c, .int .i64 most] (pt qv (rvO qs qm d) :: rstoH qs fr :: pt qm (rgO pg) :: R)
      (fun v B => ∃ a' c', v = .slice a' (gthK fr pg l most l.length).length c' ∧ B = osl 5 1 (.slice a' (gthK fr pg l most l.length).length c') (byV (gthK fr pg l most l.length)) :: pt qv (rvO qs qm d) :: rstoH qs fr :: pt qm (rgO pg) :: R) := by
  refine spec_body Tryz.func91 Tryz.ntmps91 rfl rfl ?_
  refine x_seq (x_region (s_val rfl (v_assign rfl) (x_nil (n_then (x_seq (x_region (s_val rfl (v_assign rfl) (x_nil (n_then (x_seq (x_seq (x_region (s_val rfl (v_assign rfl) (x_nil (n_then (x_block ?_))))))))))))))))
  refine x_loop (fun X : Nat × Option Addr × Nat => X.1 ≤ l.length) (fun X => [(0, .pointer (some ⟨qv, 0, none⟩)), (1, .slice a l.length c), (2, .int .i64 most), (7, .slice X.2.1 (gthK fr pg l most X.1).length X.2.2), (8, .int .i64 X.1)]) (fun X => osl 5 1 (.slice X.2.1 (gthK fr pg l most X.1).length X.2.2) (byV (gthK fr pg l most X.1)) :: pt qv (rvO qs qm d) :: rstoH qs fr :: pt qm (rgO pg) :: R) (fun X => l.length - X.1) (0, none, 0) ?_ ?_ ?_ ?_
  · simp
  · repeat (first | exact sub_nil | refine sub_cons rfl ?_)
  · exact ent_osl_nil
  · intro ⟨i, a0, c0⟩ hi
    dsimp only at hi ⊢
    obtain ⟨hg1, hg2⟩ := gthK_len fr pg l most i
    refine x_seq (x_seq (x_region (s_val rfl (v_move rfl) (s_val rfl (v_move rfl) (s_val rfl (v_len_slice Tryz.underlying43 rfl) (s_val rfl (v_lss rfl rfl) (x_nil (n_then ?_))))))))
    refine x_if rfl ?_ ?_
    · intro c3
      refine x_skip (n_then (x_seq (x_block (x_seq (x_seq ?_)))))
      have hi1 : i < l.length := by omega
      obtain ⟨g, o, rfl, hc⟩ := hs.at_ hi1
      have hd := hl _ (List.getElem_mem hi1)
      have hgd : l.getD i zD = l[i] := by simp [List.getD, hi1]
      have ha := hd.addr
      have hle := hd.len
      refine x_region (s_val rfl (v_move rfl) (s_val rfl (v_move rfl) ?_))
      refine s_val rfl (v_idx Tryz.underlying43 Tryz.sizeOf139 rfl rfl rfl hi1 (by first | exact Nat.zero_add _ | rfl)) ?_
      refine s_val rfl (v_loadAgg Tryz.isAgg139 Tryz.sizeOf139 rfl hc.weak rfl) ?_
      refine s_do rfl (d_call Tryz.call159 rfl (rcWrites_spec W0 _ l[i] hd)) ?_
      rintro _ B_ ⟨rfl, hB_⟩
      obtain rfl := hB_.symm
      refine x_nil (n_then ?_)
      refine x_if rfl ?_ ?_
      · intro c5
        have hst : gthK fr pg l most (i + 1) = gthK fr pg l most i := by rw [gthK]; simp only [hgd]; rw [if_pos c5]
        obtain ⟨a1, rfl⟩ : ∃ x, x = a0 := ⟨a0, rfl⟩
        obtain ⟨c1, rfl⟩ : ∃ x, x = c0 := ⟨c0, rfl⟩
        refine x_exit (e_then (e_block (n_then ?_)))
        skip
        refine x_region (s_val rfl (v_move rfl) ?_)
        refine s_val rfl (v_add rfl rfl (by first | exact w64 (by omega) | rfl)) ?_
        refine s_val rfl (v_assign rfl) (x_nil (n_then ?_))
        refine inv_intro (i + 1, a1, c1) ?_ ?_ ?_ ?_
        · omega
        · omega
        · dsimp only
          rw [hst]
          first
            | (repeat (first | exact sub_nil | refine sub_cons rfl ?_)
               done)
            | (have e3 : X.take (roomN most G.length) = X.take k := by
                 rcases Nat.lt_or_ge k X.length with q | q
                 · congr 1; omega
                 · rw [List.take_of_length_le (by omega), List.take_of_length_le q]
               rw [e3, List.length_append, List.length_take, Nat.min_eq_left hk1]
               repeat (first | exact sub_nil | refine sub_cons rfl ?_))
        · dsimp only
          rw [hst]
          first
            | exact inferInstance
            | (have e3 : X.take (roomN most G.length) = X.take k := by
                 rcases Nat.lt_or_ge k X.length with q | q
                 · congr 1; omega
                 · rw [List.take_of_length_le (by omega), List.take_of_length_le q]
               rw [e3, List.length_append, List.length_take, Nat.min_eq_left hk1]
               exact inferInstance)
      · intro c5
        have hst : gthK fr pg l most (i + 1) = gthK fr pg l most i ++ (rdO fr pg l[i].addr l[i].len).take (roomN most (gthK fr pg l most i).length) := by rw [gthK]; simp only [hgd]; rw [if_neg c5]
        have hr5 := rdO_len (fr := fr) (pg := pg) (pa := l[i].addr) (n := l[i].len)
        have hrm : roomN most (gthK fr pg l most i).length = (most - ((gthK fr pg l most i).length : Int)).toNat := rfl
        refine x_skip (n_then (x_seq ?_))
        refine x_draw [(g, o + i * 4, dsV l[i])] 18 mixed rfl (sc_cons hc.weak sc_end) (fun hS => ?_)
        refine d_take 0 rfl rfl (by kernel_rfl) (by kernel_rfl) (by kernel_rfl) rfl hS (v_move rfl) ?_
        refine d_take 1 rfl rfl (by kernel_rfl) (by kernel_rfl) (by kernel_rfl) rfl hS (v_move rfl) ?_
        refine d_take 2 rfl rfl (by kernel_rfl) (by kernel_rfl) (by kernel_rfl) rfl hS (v_move rfl) ?_
        refine d_take 3 rfl rfl (by kernel_rfl) (by kernel_rfl) (by kernel_rfl) rfl hS (v_idx Tryz.underlying43 Tryz.sizeOf139 rfl rfl rfl hi1 (by first | exact Nat.zero_add _ | rfl)) ?_
        refine d_take 4 rfl rfl (by kernel_rfl) (by kernel_rfl) (by kernel_rfl) rfl hS (v_fieldAddr rfl Tryz.underlying139 rfl Tryz.sizeOf47 rfl (by first | exact Nat.zero_add _ | rfl)) ?_
        refine d_take 5 rfl rfl (by kernel_rfl) (by kernel_rfl) (by kernel_rfl) rfl hS (v_load Tryz.isAgg47 rfl (cell_sc (k := 0) (j := 0) rfl rfl)) ?_
        refine d_take 6 rfl rfl (by kernel_rfl) (by kernel_rfl) (by kernel_rfl) rfl hS (v_move rfl) ?_
        refine d_take 7 rfl rfl (by kernel_rfl) (by kernel_rfl) (by kernel_rfl) rfl hS (v_move rfl) ?_
        refine d_take 8 rfl rfl (by kernel_rfl) (by kernel_rfl) (by kernel_rfl) rfl hS (v_idx Tryz.underlying43 Tryz.sizeOf139 rfl rfl rfl hi1 (by first | exact Nat.zero_add _ | rfl)) ?_
        refine d_take 9 rfl rfl (by kernel_rfl) (by kernel_rfl) (by kernel_rfl) rfl hS (v_fieldAddr rfl Tryz.underlying139 rfl Tryz.sizeOf47 rfl (by first | exact Nat.zero_add _ | rfl)) ?_
        refine d_take 10 rfl rfl (by kernel_rfl) (by kernel_rfl) (by kernel_rfl) rfl hS (v_load Tryz.isAgg47 rfl (cell_sc (k := 0) (j := 1) rfl rfl)) ?_
        refine d_take 11 rfl rfl (by kernel_rfl) (by kernel_rfl) (by kernel_rfl) rfl hS (v_conv Tryz.underlying47 Tryz.underlying3 rfl (w64 (by omega))) ?_
        refine d_one 12 (by kernel_rfl) rfl rfl (d_call3 Tryz.call160 rfl (rvRead_spec W0 _ qv qs qm d fr pg h hF l[i].addr ha l[i].len)) rfl ?_; clear hS
        rintro _ B_ ⟨a2, c2, rfl, hB_⟩
        obtain rfl := hB_.symm
        generalize hX : rdO fr pg l[i].addr l[i].len = X at hst hr5
        generalize hG : gthK fr pg l most i = G at hst hg1 hg2 hrm
        refine ⟨(sc_cons hc.weak sc_end), fun hS => ?_⟩
        refine d_take 13 rfl rfl (by kernel_rfl) (by kernel_rfl) (by kernel_rfl) rfl hS (v_move rfl) ?_
        refine d_take 14 rfl rfl (by kernel_rfl) (by kernel_rfl) (by kernel_rfl) rfl hS (v_extract rfl rfl) ?_
        refine d_take 15 rfl rfl (by kernel_rfl) (by kernel_rfl) (by kernel_rfl) rfl hS (v_extract rfl rfl) ?_
        refine d_take 16 rfl rfl (by kernel_rfl) (by kernel_rfl) (by kernel_rfl) rfl hS (v_assign rfl) ?_
        refine d_take 17 rfl rfl (by kernel_rfl) (by kernel_rfl) (by kernel_rfl) rfl hS (v_assign rfl) ?_
        refine d_done (by kernel_rfl) ?_; clear hS
        refine n_then (x_seq ?_)
        refine run_form (E := 5) (sz := 1) (a := a2) (c := c2) (n := X.length) (fun hf2 => ?_)
        refine x_region (s_val rfl (v_assign rfl) (x_nil (n_then (x_block ?_))))
        refine x_loop (fun Y : Nat × Option Addr × Nat => Y.1 ≤ X.length ∧ Y.1 ≤ roomN most G.length) (fun Y => [(0, .pointer (some ⟨qv, 0, none⟩)), (1, .slice (some ⟨g, o, none⟩) l.length c), (2, .int .i64 most), (7, .slice Y.2.1 (G.length + Y.1) Y.2.2), (8, .int .i64 i), (9, .slice a2 X.length c2), (11, .int .i64 Y.1)]) (fun Y => osl 5 1 (.slice Y.2.1 (G.length + Y.1) Y.2.2) (byV (G ++ X.take Y.1)) :: osl 5 1 (.slice a2 X.length c2) (byV X) :: pt qv (rvO qs qm d) :: rstoH qs fr :: pt qm (rgO pg) :: R) (fun Y => X.length - Y.1) (0, a0, c0) ?_ ?_ ?_ ?_
        · exact ⟨Nat.zero_le _, Nat.zero_le _⟩
        · repeat (first | exact sub_nil | refine sub_cons rfl ?_)
        · simp only [List.take_zero, List.append_nil, Nat.add_zero]; exact inferInstance
        · intro ⟨k, a1, c1⟩ ⟨hk1, hk2⟩
          dsimp only at hk1 hk2 ⊢
          refine x_seq (x_seq (x_region (s_val rfl (v_move rfl) (s_val rfl (v_move rfl) (s_val rfl (v_len_slice Tryz.underlying44 rfl) (s_val rfl (v_lss rfl rfl) (s_val rfl (v_move rfl) ?_)))))))
          refine s_and rfl rfl rfl ?_ ?_
          · intro g8_5
            refine s_val rfl (v_move rfl) (s_yes rfl rfl (s_val rfl (v_len_slice Tryz.underlying44 rfl) (s_yes rfl rfl (s_val rfl (v_move rfl) (s_yes rfl rfl (s_val rfl (v_lss rfl rfl) (s_val rfl (v_pick_t rfl rfl) (x_nil (n_then ?_)))))))))
            refine x_if rfl ?_ ?_
            · intro c8
              refine x_skip (n_then (x_seq (x_block ?_)))
              have hkX : k < X.length := by omega
              obtain ⟨g2, rfl⟩ := form_some hf2 (byV_ne (by omega))
              refine x_region (s_val rfl (v_move rfl) (s_val rfl (v_move rfl) (s_val rfl (v_move rfl) ?_)))
              refine s_val rfl (v_idx Tryz.underlying44 Tryz.sizeOf5 rfl rfl rfl hkX (by first | exact Nat.zero_add _ | rfl)) ?_
              refine s_val rfl (v_load Tryz.isAgg5 rfl (by rw [Nat.mul_one]; exact cell_osl (E := 5) (sz := 1) (n := X.length) (c := c2) (byV_get X k hkX))) ?_
              refine s_do rfl (d_sliceLit Tryz.underlying44 Tryz.sizeOf5 Tryz.zeroValue5 rfl rfl rfl rfl rfl (by decide) (by decide)) ?_
              rintro _ _ ⟨b1, rfl, rfl⟩
              refine s_do rfl (d_append (sz := 1) (by_ := 1) (info := Tryz.t5) Tryz.underlying44 (by kernel_rfl) rfl rfl rfl rfl (by decide) rfl rfl cells_all rfl rfl (by simp only [maxLen]; omega) (by omega)) ?_
              rintro _ _ ⟨a3, c3, rfl, rfl⟩
              refine s_val rfl (v_assign rfl) (x_nil (n_block (n_then (x_region (s_val rfl (v_move rfl) ?_)))))
              refine s_val rfl (v_add rfl rfl (by first | exact w64 (by omega) | rfl)) ?_
              refine s_val rfl (v_assign rfl) (x_nil (n_then ?_))
              refine inv_intro (k + 1, a3, c3) ?_ ?_ ?_ ?_
              · exact ⟨by omega, by omega⟩
              · omega
              · repeat (first | exact sub_nil | refine sub_cons rfl ?_)
              · dsimp only
                rw [List.take_succ_eq_append_getElem hkX, ← List.append_assoc, byV_append (G ++ X.take k), ← Nat.add_assoc, show byV [X[k]] = [bV X[k]] from rfl]
                exact inferInstance
            · intro c8
              refine x_exit (e_then (e_then (e_block (n_block (n_then ?_)))))
              skip
              refine x_region (s_val rfl (v_move rfl) ?_)
              refine s_val rfl (v_add rfl rfl (by first | exact w64 (by omega) | rfl)) ?_
              refine s_val rfl (v_assign rfl) (x_nil (n_then ?_))
              refine inv_intro (i + 1, a1, c1) ?_ ?_ ?_ ?_
              · omega
              · omega
              · dsimp only
                rw [hst]
                first
                  | (repeat (first | exact sub_nil | refine sub_cons rfl ?_)
                     done)
                  | (have e3 : X.take (roomN most G.length) = X.take k := by
                       rcases Nat.lt_or_ge k X.length with q | q
                       · congr 1; omega
                       · rw [List.take_of_length_le (by omega), List.take_of_length_le q]
                     rw [e3, List.length_append, List.length_take, Nat.min_eq_left hk1]
                     repeat (first | exact sub_nil | refine sub_cons rfl ?_))
              · dsimp only
                rw [hst]
                first
                  | exact inferInstance
                  | (have e3 : X.take (roomN most G.length) = X.take k := by
                       rcases Nat.lt_or_ge k X.length with q | q
                       · congr 1; omega
                       · rw [List.take_of_length_le (by omega), List.take_of_length_le q]
                     rw [e3, List.length_append, List.length_take, Nat.min_eq_left hk1]
                     exact inferInstance)
          · intro g8_5
            refine s_no rfl rfl rfl rfl (s_no rfl rfl rfl rfl (s_no rfl rfl rfl rfl (s_val rfl (v_pick_f rfl rfl) (x_nil (n_then (x_iff rfl (x_exit (e_then (e_then (e_block (n_block (n_then ?_))))))))))))
            skip
            refine x_region (s_val rfl (v_move rfl) ?_)
            refine s_val rfl (v_add rfl rfl (by first | exact w64 (by omega) | rfl)) ?_
            refine s_val rfl (v_assign rfl) (x_nil (n_then ?_))
            refine inv_intro (i + 1, a1, c1) ?_ ?_ ?_ ?_
            · omega
            · omega
            · dsimp only
              rw [hst]
              first
                | (repeat (first | exact sub_nil | refine sub_cons rfl ?_)
                   done)
                | (have e3 : X.take (roomN most G.length) = X.take k := by
                     rcases Nat.lt_or_ge k X.length with q | q
                     · congr 1; omega
                     · rw [List.take_of_length_le (by omega), List.take_of_length_le q]
                   rw [e3, List.length_append, List.length_take, Nat.min_eq_left hk1]
                   repeat (first | exact sub_nil | refine sub_cons rfl ?_))
            · dsimp only
              rw [hst]
              first
                | exact inferInstance
                | (have e3 : X.take (roomN most G.length) = X.take k := by
                     rcases Nat.lt_or_ge k X.length with q | q
                     · congr 1; omega
                     · rw [List.take_of_length_le (by omega), List.take_of_length_le q]
                   rw [e3, List.length_append, List.length_take, Nat.min_eq_left hk1]
                   exact inferInstance)
    · intro c3
      refine x_exit (e_then (e_then (e_block (n_then (x_seq (x_region (s_val rfl (v_move rfl) (s_val rfl (v_assign rfl) (x_nil (n_then (x_ret (x_done (.inl rfl) (.cons (r_tmp rfl) .nil) ?_))))))))))))
      have e1 : i = l.length := by omega
      subst e1
      exact ⟨_, ⟨a0, c0, rfl, rfl⟩, inferInstance⟩
end Go.Proofs.YtncegikenkpcmaaGreat
namespace Go.Proofs.YtncegikenkpcmaaGreat
open Go.RowKit
set_option linter.unusedSimpArgs false
set_option linter.unusedVariables false
set_option maxRecDepth 20000
end Go.Proofs.YtncegikenkpcmaaGreat
namespace Go.Proofs.YtncegikenkpcmaaGreat
open Go.RowKit
set_option linter.unusedSimpArgs false
set_option linter.unusedVariables false
set_option maxRecDepth 20000
theorem getN_wd {l : List Nat} {k : Nat} (h : 4 * k + 4 ≤ l.length) : getN l ((4 * k : Nat) : Int) 4 = wdAt l k := by
  rw [getN, if_pos (inB_iff.2 (by omega)), Int.toNat_natCast]; rfl
theorem rWords_spec (W0 : World) (R : List HP) (a : Option Addr) (c : Nat) (l : List Nat) (hs : SlA (OwnP W0 R) a 1 (fun x => [bV x]) l) (hb : By l) (hcap : l.length ≤ c) (hl : l.length ≤ 1000000) (hc63 : c < 9223372036854775808) :
    Spec Tryz.prog W0 94 [.slice a l.length c] R (fun v B => ∃ a' c', v = .slice a' (l.length / 4) c' ∧ B = osl 47 1 (.slice a' (l.length / 4) c') (wordsV l (l.length / 4)) :: R) := by
  refine spec_body Tryz.func94 Tryz.ntmps94 rfl rfl ?_
  refine x_seq (x_region (s_val rfl (v_assign rfl) (x_nil (n_then (x_seq (x_region (s_val rfl (v_assign rfl) (x_nil (n_then (x_seq (x_seq (x_region (s_val rfl (v_assign rfl) (x_nil (n_then (x_block ?_))))))))))))))))
  refine x_loop (fun x : Nat × Option Addr × Nat => x.1 ≤ l.length / 4) (fun x => [(0, .slice a l.length c), (3, .slice x.2.1 x.1 x.2.2), (4, .int .i64 (4 * x.1 : Nat))]) (fun x => osl 47 1 (.slice x.2.1 x.1 x.2.2) (wordsV l x.1) :: R) (fun x => l.length / 4 - x.1) (0, none, 0) ?_ ?_ ?_ ?_
  · simp
  · repeat (first | exact sub_nil | refine sub_cons rfl ?_)
  · exact ent_osl_nil
  · intro ⟨i, a1, c1⟩ hi
    dsimp only at hi ⊢
    refine x_seq (x_seq (x_region (s_val rfl (v_move rfl) ?_)))
    refine s_val rfl (v_add rfl rfl (by first | exact w64 (by omega) | rfl)) ?_
    refine s_val rfl (v_move rfl) (s_val rfl (v_len_slice Tryz.underlying44 rfl) (s_val rfl (v_leq rfl rfl) (x_nil (n_then ?_))))
    refine x_if rfl ?_ ?_
    · intro c3
      refine x_skip (n_then (x_seq (x_block (x_seq ?_))))
      obtain ⟨g, off, rfl, hc⟩ := hs.all (by intro h0; subst h0; simp at *; omega) (fun _ => rfl)
      rw [byV_fm] at hc
      refine x_region (s_val rfl (v_move rfl) (s_val rfl (v_move rfl) (s_do rfl (d_call Tryz.call161 rfl (refGet02_spec W0 _ g off c l ((4 * i : Nat) : Int) 4 hc.weak hb hcap hc63)) ?_)))
      rintro _ B_ ⟨rfl, hB_⟩
      obtain rfl := hB_.symm
      rw [getN_wd (by omega)]
      refine s_val rfl (v_move rfl) (s_val rfl (v_extract rfl rfl) (s_val rfl (v_extract rfl rfl) (s_val rfl (v_assign rfl) (s_val rfl (v_assign rfl) (x_nil (n_then (x_region (s_val rfl (v_move rfl) (s_val rfl (v_move rfl) ?_)))))))))
      refine s_do rfl (d_sliceLit Tryz.underlying45 Tryz.sizeOf47 Tryz.zeroValue47 rfl rfl rfl rfl rfl (by decide) (by decide)) ?_
      rintro _ _ ⟨b1, rfl, rfl⟩
      refine s_do rfl (d_append (sz := 1) (by_ := 4) (info := Tryz.t47) Tryz.underlying45 (by kernel_rfl) rfl rfl rfl rfl (by decide) rfl rfl cells_all rfl rfl (by simp only [maxLen]; omega) (by omega)) ?_
      rintro _ _ ⟨a2, c2, rfl, rfl⟩
      refine s_val rfl (v_assign rfl) (x_nil (n_block (n_then (x_region (s_val rfl (v_move rfl) ?_)))))
      refine s_val rfl (v_add rfl rfl (by rw [w64 (by omega)]; omega : IntKind.wrap .i64 (((4 * i : Nat) : Int) + 4) = ((4 * (i + 1) : Nat) : Int))) ?_
      refine s_val rfl (v_assign rfl) (x_nil (n_then ?_))
      refine inv_intro (i + 1, a2, c2) ?_ ?_ ?_ ?_
      · omega
      · omega
      · repeat (first | exact sub_nil | refine sub_cons rfl ?_)
      · rw [wordsV_succ]
        show Ent _ (osl 47 1 (.slice a2 (i + 1) c2) (wordsV l i ++ [.int .u32 ((wdAt l i : Nat) : Int)]) :: R)
        exact inferInstance
    · intro c3
      refine x_exit (e_then (e_then (e_block (n_then (x_seq (x_region (s_val rfl (v_move rfl) (s_val rfl (v_assign rfl) (x_nil (n_then (x_ret (x_done (.inl rfl) (.cons (r_tmp rfl) .nil) ?_))))))))))))
      have e1 : i = l.length / 4 := by omega
      subst e1
      exact ⟨_, ⟨a1, c1, rfl, rfl⟩, inferInstance⟩
theorem rdGet_spec (W0 : World) (R : List HP) (a : Option Addr) (c : Nat) (l : List Nat) (hs : SlA (OwnP W0 R) a 1 (fun x => [bV x]) l) (hb : By l) (hcap : l.length ≤ c) (hl : l.length ≤ 1000000) (hc63 : c < 9223372036854775808) :
    Spec Tryz.prog W0 251 [.slice a l.length c] R (fun v B => v = .tuple #[.agg (dsV (if l.length = 16 then dsOf l else zD)).toArray, .int .i64 (if l.length = 16 then 0 else 6)] ∧ B = R) := by
  refine spec_body Tryz.func251 Tryz.ntmps251 rfl rfl ?_
  refine x_seq (x_region (s_do rfl (d_allocA Tryz.zeroValue139) ?_))
  rintro _ _ ⟨b1, rfl, rfl⟩
  refine s_val rfl (v_assign rfl) (x_nil (n_then (x_seq (x_seq (x_region (s_val rfl (v_move rfl) (s_val rfl (v_len_slice Tryz.underlying44 rfl) (s_val rfl (v_neq rfl rfl) (x_nil (n_then ?_))))))))))
  refine x_if rfl ?_ ?_
  · intro c1
    refine x_seq (x_region (s_val rfl (v_build Tryz.underlying139 Tryz.zeroValue139 (sized_cons Tryz.sizeOf47 (sized_cons Tryz.sizeOf47 (sized_cons Tryz.sizeOf47 (sized_cons Tryz.sizeOf47 sized_nil)))) fil_nil) ?_))
    refine s_do0 (d_storeAll Tryz.sizeOf139 rfl rfl rfl rfl rfl) ?_
    rintro _ _ rfl
    refine s_val rfl (v_assign rfl) (x_nil (n_then (x_ret (r_then (x_done (.inl rfl) (.cons (r_all Tryz.isAgg139 Tryz.sizeOf139 rfl rfl) (.cons (r_tmp rfl) .nil)) ?_)))))
    refine ⟨_, ⟨?_, rfl⟩, inferInstance⟩
    have h16 : ¬ l.length = 16 := by omega
    simp [pack, h16, zD]
  · intro c1
    have h16 : l.length = 16 := by omega
    refine x_skip (n_then (x_seq (x_region (s_val rfl (v_move rfl) (s_do rfl (d_call Tryz.call94 rfl (rWords_spec W0 _ a c l (SlA.weak hs) hb hcap hl hc63)) ?_)))))
    rintro _ B_ ⟨a', c', rfl, hB_⟩
    obtain rfl := hB_.symm
    rw [show l.length / 4 = 4 by rw [h16]]
    refine run_form (E := 47) (sz := 1) (a := a') (c := c') (n := 4) (fun hf => ?_)
    obtain ⟨g, rfl⟩ := form_some hf (by simp [wordsV])
    refine s_val rfl (v_assign rfl) (x_nil (n_then (x_seq ?_)))
    refine x_draw [(g, 0, wordsV l 4)] 15 mixed rfl (sc_cons (cells_osl (E := 47) (sz := 1) (a := some ⟨g, 0, none⟩) (c := c') (n := 4)) sc_end) (fun hS => ?_)
    refine d_take 0 rfl rfl (by kernel_rfl) (by kernel_rfl) (by kernel_rfl) rfl hS (v_move rfl) ?_
    refine d_take 1 rfl rfl (by kernel_rfl) (by kernel_rfl) (by kernel_rfl) rfl hS (v_idx Tryz.underlying45 Tryz.sizeOf47 rfl rfl rfl (by decide) (by first | exact Nat.zero_add _ | rfl)) ?_
    refine d_take 2 rfl rfl (by kernel_rfl) (by kernel_rfl) (by kernel_rfl) rfl hS (v_load Tryz.isAgg47 rfl (cell_sc0 (k := 0) rfl rfl)) ?_
    refine d_take 3 rfl rfl (by kernel_rfl) (by kernel_rfl) (by kernel_rfl) rfl hS (v_move rfl) ?_
    refine d_take 4 rfl rfl (by kernel_rfl) (by kernel_rfl) (by kernel_rfl) rfl hS (v_idx Tryz.underlying45 Tryz.sizeOf47 rfl rfl rfl (by decide) (by first | exact Nat.zero_add _ | rfl)) ?_
    refine d_take 5 rfl rfl (by kernel_rfl) (by kernel_rfl) (by kernel_rfl) rfl hS (v_load Tryz.isAgg47 rfl (cell_sc0 (k := 0) rfl rfl)) ?_
    refine d_take 6 rfl rfl (by kernel_rfl) (by kernel_rfl) (by kernel_rfl) rfl hS (v_move rfl) ?_
    refine d_take 7 rfl rfl (by kernel_rfl) (by kernel_rfl) (by kernel_rfl) rfl hS (v_idx Tryz.underlying45 Tryz.sizeOf47 rfl rfl rfl (by decide) (by first | exact Nat.zero_add _ | rfl)) ?_
    refine d_take 8 rfl rfl (by kernel_rfl) (by kernel_rfl) (by kernel_rfl) rfl hS (v_load Tryz.isAgg47 rfl (cell_sc0 (k := 0) rfl rfl)) ?_
    refine d_take 9 rfl rfl (by kernel_rfl) (by kernel_rfl) (by kernel_rfl) rfl hS (v_move rfl) ?_
    refine d_take 10 rfl rfl (by kernel_rfl) (by kernel_rfl) (by kernel_rfl) rfl hS (v_idx Tryz.underlying45 Tryz.sizeOf47 rfl rfl rfl (by decide) (by first | exact Nat.zero_add _ | rfl)) ?_
    refine d_take 11 rfl rfl (by kernel_rfl) (by kernel_rfl) (by kernel_rfl) rfl hS (v_load Tryz.isAgg47 rfl (cell_sc0 (k := 0) rfl rfl)) ?_
    refine d_take 12 rfl rfl (by kernel_rfl) (by kernel_rfl) (by kernel_rfl) rfl hS (v_build Tryz.underlying139 Tryz.zeroValue139 (sized_cons Tryz.sizeOf47 (sized_cons Tryz.sizeOf47 (sized_cons Tryz.sizeOf47 (sized_cons Tryz.sizeOf47 sized_nil)))) (fil_scal rfl Tryz.sizeOf47 rfl rfl (Nat.le_of_ble_eq_true rfl) SetL.eq (fil_scal rfl Tryz.sizeOf47 rfl rfl (Nat.le_of_ble_eq_true rfl) SetL.eq (fil_scal rfl Tryz.sizeOf47 rfl rfl (Nat.le_of_ble_eq_true rfl) SetL.eq (fil_scal rfl Tryz.sizeOf47 rfl rfl (Nat.le_of_ble_eq_true rfl) SetL.eq fil_nil))))) ?_
    refine d_one 13 (by kernel_rfl) rfl rfl (d_storeAll Tryz.sizeOf139 rfl rfl rfl rfl rfl) rfl ?_; clear hS
    rintro _ _ rfl
    refine ⟨(sc_cons (cells_osl (E := 47) (sz := 1) (a := some ⟨g, 0, none⟩) (c := c') (n := 4)) sc_end), fun hS => ?_⟩
    refine d_take 14 rfl rfl (by kernel_rfl) (by kernel_rfl) (by kernel_rfl) rfl hS (v_assign rfl) ?_
    refine d_done (by kernel_rfl) ?_; clear hS
    refine n_then (x_ret (x_done (.inl rfl) (.cons (r_all Tryz.isAgg139 Tryz.sizeOf139 rfl rfl) (.cons (r_tmp rfl) .nil)) ?_))
    refine ⟨_, ⟨?_, rfl⟩, inferInstance⟩
    rw [if_pos h16, if_pos h16]; rfl
theorem rdCheck_spec (W0 : World) (R : List HP) (d : Dsc) (hd : d.ok) (n : Nat) (hn : n < 9223372036854775808) : Spec Tryz.prog W0 252 [.agg (dsV d).toArray, .int .i64 n] R (fun v B => v = .int .i64 (chkC d n) ∧ B = R) := by
  have h1 := hd.flags
  have h2 := hd.next
  refine spec_body Tryz.func252 Tryz.ntmps252 rfl rfl ?_
  refine x_seq (x_region (s_do rfl (d_boxA rfl) ?_))
  rintro _ _ ⟨b1, rfl, rfl⟩
  refine s_val rfl (v_assign rfl) (x_nil (n_then (x_seq (x_seq (x_region ?_)))))
  refine s_val rfl (v_fieldAddr rfl Tryz.underlying139 rfl Tryz.sizeOf47 rfl (by first | exact Nat.zero_add _ | rfl)) ?_
  refine s_val rfl (v_load Tryz.isAgg47 rfl (cell_own rfl)) ?_
  refine s_val rfl (v_gtr rfl rfl) (x_nil (n_then ?_))
  refine x_if rfl ?_ ?_
  · intro c1
    refine x_seq (x_region (s_val rfl (v_assign rfl) (x_nil (n_then (x_ret (r_then (x_done (.inl rfl) (.cons (r_tmp rfl) .nil) ?_)))))))
    refine ⟨_, ⟨?_, rfl⟩, inferInstance⟩
    simp only [pack, chkC]; rw [if_pos (by omega)]
  · intro c1
    refine x_skip (n_then (x_seq (x_seq (x_region ?_))))
    refine s_val rfl (v_fieldAddr rfl Tryz.underlying139 rfl Tryz.sizeOf47 rfl (by first | exact Nat.zero_add _ | rfl)) ?_
    refine s_val rfl (v_load Tryz.isAgg47 rfl (cell_own rfl)) ?_
    refine s_val rfl (v_gtr rfl rfl) (x_nil (n_then ?_))
    refine x_if rfl ?_ ?_
    · intro c3
      refine x_seq (x_region (s_val rfl (v_assign rfl) (x_nil (n_then (x_ret (r_then (x_done (.inl rfl) (.cons (r_tmp rfl) .nil) ?_)))))))
      refine ⟨_, ⟨?_, rfl⟩, inferInstance⟩
      simp only [pack, chkC]; rw [if_neg (by omega), if_pos (by omega)]
    · intro c3
      refine x_skip (n_then (x_seq (x_seq (x_region ?_))))
      refine s_val rfl (v_fieldAddr rfl Tryz.underlying139 rfl Tryz.sizeOf47 rfl (by first | exact Nat.zero_add _ | rfl)) ?_
      refine s_val rfl (v_load Tryz.isAgg47 rfl (cell_own rfl)) ?_
      refine s_val rfl (v_rem rfl rfl (by decide) (tmodN d.flags 2)) ?_
      refine s_val rfl (v_eql rfl rfl) (s_val rfl (v_move rfl) ?_)
      refine s_and rfl rfl rfl ?_ ?_
      · intro g5_5
        refine s_val rfl (v_fieldAddr rfl Tryz.underlying139 rfl Tryz.sizeOf47 rfl (by first | exact Nat.zero_add _ | rfl)) ?_
        refine s_yes rfl rfl (s_val rfl (v_load Tryz.isAgg47 rfl (cell_own rfl)) ?_)
        refine s_yes rfl rfl ?_
        refine s_val rfl (v_conv Tryz.underlying47 Tryz.underlying3 rfl (w64 (by omega))) ?_
        refine s_yes rfl rfl (s_val rfl (v_move rfl) (s_yes rfl rfl (s_val rfl (v_geq rfl rfl) (s_val rfl (v_pick_t rfl rfl) (x_nil (n_then ?_))))))
        refine x_if rfl ?_ ?_
        · intro c5
          refine x_seq (x_region (s_val rfl (v_assign rfl) (x_nil (n_then (x_ret (r_then (x_done (.inl rfl) (.cons (r_tmp rfl) .nil) ?_)))))))
          refine ⟨_, ⟨?_, rfl⟩, inferInstance⟩
          simp only [pack, chkC]; rw [if_neg (by omega), if_neg (by omega), if_pos (by omega)]
        · intro c5
          refine x_skip (n_then (x_seq (x_region (s_val rfl (v_assign rfl) (x_nil (n_then (x_ret (x_done (.inl rfl) (.cons (r_tmp rfl) .nil) ?_))))))))
          refine ⟨_, ⟨?_, rfl⟩, inferInstance⟩
          simp only [pack, chkC]; rw [if_neg (by omega), if_neg (by omega), if_neg (by omega)]
      · intro g5_5
        refine s_no rfl rfl rfl rfl (s_no rfl rfl rfl rfl (s_no rfl rfl rfl rfl (s_no rfl rfl rfl rfl (s_val rfl (v_pick_f rfl rfl) (x_nil (n_then (x_iff rfl (x_skip (n_then (x_seq (x_region (s_val rfl (v_assign rfl) (x_nil (n_then (x_ret (x_done (.inl rfl) (.cons (r_tmp rfl) .nil) ?_))))))))))))))))
        refine ⟨_, ⟨?_, rfl⟩, inferInstance⟩
        simp only [pack, chkC]; rw [if_neg (by omega), if_neg (by omega), if_neg (by omega)]
theorem rdSized_spec (W0 : World) (R : List HP) (n : Int) : Spec Tryz.prog W0 200 [.int .i64 n] R (fun v B => v = .bool (szd n) ∧ B = R) := by
  refine spec_body Tryz.func200 Tryz.ntmps200 rfl rfl ?_
  refine x_seq (x_region (s_val rfl (v_assign rfl) (x_nil (n_then (x_seq (x_region (s_val rfl (v_move rfl) (s_val rfl (v_eql rfl rfl) (s_val rfl (v_move rfl) ?_)))))))))
  refine s_or rfl rfl rfl ?_ ?_
  · intro g1_3
    refine s_no rfl rfl rfl rfl (s_val rfl (v_pick_t rfl rfl) (s_val rfl (v_move rfl) (s_no rfl rfl rfl rfl (s_no rfl rfl rfl rfl (s_val rfl (v_pick_t rfl rfl) (s_val rfl (v_assign rfl) (x_nil (n_then (x_ret (x_done (.inl rfl) (.cons (r_tmp rfl) .nil) ?_))))))))))
    refine ⟨_, ⟨?_, rfl⟩, inferInstance⟩
    refine congrArg Value.bool ?_
    rw [Bool.eq_iff_iff]; simp only [szd, decide_eq_true_iff, beq_iff_eq, Bool.true_eq_false, iff_true, true_iff]; omega
  · intro g1_3
    refine s_val rfl (v_move rfl) (s_yes rfl rfl (s_val rfl (v_eql rfl rfl) (s_val rfl (v_pick_f rfl rfl) (s_val rfl (v_move rfl) ?_))))
    refine s_or rfl rfl rfl ?_ ?_
    · intro g1_7
      refine s_no rfl rfl rfl rfl (s_val rfl (v_pick_t rfl rfl) (s_val rfl (v_assign rfl) (x_nil (n_then (x_ret (x_done (.inl rfl) (.cons (r_tmp rfl) .nil) ?_))))))
      refine ⟨_, ⟨?_, rfl⟩, inferInstance⟩
      refine congrArg Value.bool ?_
      rw [Bool.eq_iff_iff]; simp only [szd, decide_eq_true_iff, beq_iff_eq, Bool.true_eq_false, iff_true, true_iff]; omega
    · intro g1_7
      refine s_val rfl (v_move rfl) (s_yes rfl rfl (s_val rfl (v_eql rfl rfl) (s_val rfl (v_pick_f rfl rfl) (s_val rfl (v_assign rfl) (x_nil (n_then (x_ret (x_done (.inl rfl) (.cons (r_tmp rfl) .nil) ?_))))))))
      refine ⟨_, ⟨?_, rfl⟩, inferInstance⟩
      refine congrArg Value.bool ?_
      rw [Bool.eq_iff_iff]; simp only [szd, decide_eq_true_iff, beq_iff_eq, Bool.true_eq_false, iff_true, true_iff]; omega
theorem rgtB_iff {r : Rg3} : rgtB r = true ↔ (r.desc % 4 = 0 ∧ r.avail % 4 = 0 ∧ r.used % 4 = 0) ∧ szd r.n = true := by
  rw [rgtB, Bool.and_eq_true]; exact ⟨fun h => ⟨of_decide_eq_true h.1, h.2⟩, fun h => ⟨decide_eq_true h.1, h.2⟩⟩
theorem rdRight_spec (W0 : World) (R : List HP) (r : Rg3) : Spec Tryz.prog W0 140 [.agg (rgV r).toArray] R (fun v B => v = .bool (rgtB r) ∧ B = R) := by
  refine spec_body Tryz.func140 Tryz.ntmps140 rfl rfl ?_
  refine x_seq (x_region (s_do rfl (d_boxA rfl) ?_))
  rintro _ _ ⟨b1, rfl, rfl⟩
  refine s_val rfl (v_assign rfl) (x_nil (n_then (x_seq (x_region ?_))))
  refine s_val rfl (v_fieldAddr rfl Tryz.underlying71 rfl Tryz.sizeOf3 rfl (by first | exact Nat.zero_add _ | rfl)) ?_
  refine s_val rfl (v_load Tryz.isAgg3 rfl (cell_own rfl)) ?_
  refine s_do rfl (d_call Tryz.call200 rfl (rdSized_spec W0 _ r.n)) ?_
  rintro _ B_ ⟨rfl, hB_⟩
  obtain rfl := hB_.symm
  refine s_val rfl (v_move rfl) ?_
  refine s_and rfl rfl rfl ?_ ?_
  · intro g1_4
    refine s_val rfl (v_fieldAddr rfl Tryz.underlying71 rfl Tryz.sizeOf47 rfl (by first | exact Nat.zero_add _ | rfl)) ?_
    refine s_yes rfl rfl (s_val rfl (v_load Tryz.isAgg47 rfl (cell_own rfl)) ?_)
    refine s_yes rfl rfl ?_
    refine s_val rfl (v_rem rfl rfl (by decide) (tmodN r.desc 4)) ?_
    refine s_yes rfl rfl (s_val rfl (v_eql rfl rfl) (s_val rfl (v_pick_t rfl rfl) (s_val rfl (v_move rfl) ?_)))
    refine s_and rfl rfl rfl ?_ ?_
    · intro g1_10
      refine s_val rfl (v_fieldAddr rfl Tryz.underlying71 rfl Tryz.sizeOf47 rfl (by first | exact Nat.zero_add _ | rfl)) ?_
      refine s_yes rfl rfl (s_val rfl (v_load Tryz.isAgg47 rfl (cell_own rfl)) ?_)
      refine s_yes rfl rfl ?_
      refine s_val rfl (v_rem rfl rfl (by decide) (tmodN r.avail 4)) ?_
      refine s_yes rfl rfl (s_val rfl (v_eql rfl rfl) (s_val rfl (v_pick_t rfl rfl) (s_val rfl (v_move rfl) ?_)))
      refine s_and rfl rfl rfl ?_ ?_
      · intro g1_16
        refine s_val rfl (v_fieldAddr rfl Tryz.underlying71 rfl Tryz.sizeOf47 rfl (by first | exact Nat.zero_add _ | rfl)) ?_
        refine s_yes rfl rfl (s_val rfl (v_load Tryz.isAgg47 rfl (cell_own rfl)) ?_)
        refine s_yes rfl rfl ?_
        refine s_val rfl (v_rem rfl rfl (by decide) (tmodN r.used 4)) ?_
        refine s_yes rfl rfl (s_val rfl (v_eql rfl rfl) (s_val rfl (v_pick_t rfl rfl) (s_val rfl (v_assign rfl) (x_nil (n_then (x_ret (x_done (.inl rfl) (.cons (r_tmp rfl) .nil) ?_)))))))
        refine ⟨_, ⟨?_, rfl⟩, inferInstance⟩
        refine congrArg Value.bool ?_
        rw [Bool.eq_iff_iff, rgtB_iff]
        first
          | (rw [beq_iff_eq]; constructor
             · intro q; exact ⟨by omega, g1_4⟩
             · rintro ⟨q, _⟩; omega)
          | (constructor
             · intro q; cases q
             · rintro ⟨q1, q2⟩; first | exact absurd q2 g1_4 | (exfalso; omega))
      · intro g1_16
        refine s_no rfl rfl rfl rfl (s_no rfl rfl rfl rfl (s_no rfl rfl rfl rfl (s_val rfl (v_pick_f rfl rfl) (s_val rfl (v_assign rfl) (x_nil (n_then (x_ret (x_done (.inl rfl) (.cons (r_tmp rfl) .nil) ?_))))))))
        refine ⟨_, ⟨?_, rfl⟩, inferInstance⟩
        refine congrArg Value.bool ?_
        rw [Bool.eq_iff_iff, rgtB_iff]
        first
          | (rw [beq_iff_eq]; constructor
             · intro q; exact ⟨by omega, g1_4⟩
             · rintro ⟨q, _⟩; omega)
          | (constructor
             · intro q; cases q
             · rintro ⟨q1, q2⟩; first | exact absurd q2 g1_4 | (exfalso; omega))
    · intro g1_10
      refine s_no rfl rfl rfl rfl (s_no rfl rfl rfl rfl (s_no rfl rfl rfl rfl (s_val rfl (v_pick_f rfl rfl) (s_val rfl (v_move rfl) (s_no rfl rfl rfl rfl (s_no rfl rfl rfl rfl (s_no rfl rfl rfl rfl (s_no rfl rfl rfl rfl (s_val rfl (v_pick_f rfl rfl) (s_val rfl (v_assign rfl) (x_nil (n_then (x_ret (x_done (.inl rfl) (.cons (r_tmp rfl) .nil) ?_))))))))))))))
      refine ⟨_, ⟨?_, rfl⟩, inferInstance⟩
      refine congrArg Value.bool ?_
      rw [Bool.eq_iff_iff, rgtB_iff]
      first
        | (rw [beq_iff_eq]; constructor
           · intro q; exact ⟨by omega, g1_4⟩
           · rintro ⟨q, _⟩; omega)
        | (constructor
           · intro q; cases q
           · rintro ⟨q1, q2⟩; first | exact absurd q2 g1_4 | (exfalso; omega))
  · intro g1_4
    refine s_no rfl rfl rfl rfl (s_no rfl rfl rfl rfl (s_no rfl rfl rfl rfl (s_val rfl (v_pick_f rfl rfl) (s_val rfl (v_move rfl) (s_no rfl rfl rfl rfl (s_no rfl rfl rfl rfl (s_no rfl rfl rfl rfl (s_no rfl rfl rfl rfl (s_val rfl (v_pick_f rfl rfl) (s_val rfl (v_move rfl) (s_no rfl rfl rfl rfl (s_no rfl rfl rfl rfl (s_no rfl rfl rfl rfl (s_no rfl rfl rfl rfl (s_val rfl (v_pick_f rfl rfl) (s_val rfl (v_assign rfl) (x_nil (n_then (x_ret (x_done (.inl rfl) (.cons (r_tmp rfl) .nil) ?_))))))))))))))))))))
    refine ⟨_, ⟨?_, rfl⟩, inferInstance⟩
    refine congrArg Value.bool ?_
    rw [Bool.eq_iff_iff, rgtB_iff]
    first
      | (rw [beq_iff_eq]; constructor
         · intro q; exact ⟨by omega, g1_4⟩
         · rintro ⟨q, _⟩; omega)
      | (constructor
         · intro q; cases q
         · rintro ⟨q1, q2⟩; first | exact absurd q2 g1_4 | (exfalso; omega))
theorem lk_flags {fr : List Frm} {pg : List Pl} {r : Rg3} {at_ : Int} {n : Nat} {wr : Bool} (h : (lk fr pg r at_ n wr).2 = 0) : (lk fr pg r at_ n wr).1.flags < 4 := by
  unfold lk at h ⊢
  by_cases q1 : at_ < 0 ∨ r.n ≤ at_
  · rw [if_pos q1] at h; exact absurd h (by decide)
  rw [if_neg q1] at h ⊢
  by_cases q2 : r.n ≤ (n : Int)
  · rw [if_pos q2] at h; exact absurd h (by decide)
  rw [if_neg q2] at h ⊢
  by_cases q3 : ownB fr.length pg (dsPa r at_.toNat) 16 = false
  · rw [if_pos q3] at h; exact absurd h (by decide)
  rw [if_neg q3] at h ⊢
  by_cases q4 : chkC (dsAt fr pg r at_.toNat) r.n.toNat ≠ 0
  · rw [if_pos q4] at h; exact absurd h q4
  rw [if_neg q4] at h ⊢
  by_cases q5 : ownB fr.length pg (dsAt fr pg r at_.toNat).addr (dsAt fr pg r at_.toNat).len = false
  · rw [if_pos q5] at h; exact absurd h (by decide)
  rw [if_neg q5] at h ⊢
  by_cases q6 : wr = true ∧ wrB (dsAt fr pg r at_.toNat) = false
  · rw [if_pos q6] at h; exact absurd h (by decide)
  rw [if_neg q6]
  simp only
  rcases Nat.lt_or_ge (dsAt fr pg r at_.toNat).flags 4 with q | q
  · exact q
  · exact absurd (by rw [chkC, if_pos q]; decide) q4
abbrev rvw (qv qs qm d : Nat) (fr : List Frm) (pg : List Pl) (R : List HP) : List HP := pt qv (rvO qs qm d) :: rstoH qs fr :: pt qm (rgO pg) :: R
theorem rcWrong_spec (W0 : World) (R : List HP) (qv qs qm d : Nat) (fr : List Frm) (pg : List Pl) (h : Pgs pg) (hF : Frs fr) (r : Rg3) (hr : r.ok) (hn8 : r.n ≤ 8) (wr : Bool) (at_ : Int) (n : Nat) :
    Spec Tryz.prog W0 220 [.pointer (some ⟨qv, 0, none⟩), .agg (rgV r).toArray, .int .i64 at_, .int .i64 n, .bool wr] (rvw qv qs qm d fr pg R)
      (fun v B => v = .tuple #[.agg (dsV (lk fr pg r at_ n wr).1).toArray, .int .i64 (lk fr pg r at_ n wr).2] ∧ B = rvw qv qs qm d fr pg R) := by
  have hrd := hr.desc
  refine spec_body Tryz.func220 Tryz.ntmps220 rfl rfl ?_
  refine x_seq (x_region (s_do rfl (d_boxA rfl) ?_))
  rintro _ _ ⟨b1, rfl, rfl⟩
  refine s_do rfl (d_allocA Tryz.zeroValue139) ?_
  rintro _ _ ⟨b2, rfl, rfl⟩
  refine s_val rfl (v_assign rfl) (x_nil (n_then (x_seq (x_seq (x_region (s_val rfl (v_move rfl) (s_val rfl (v_lss rfl rfl) (s_val rfl (v_move rfl) ?_))))))))
  refine s_or rfl rfl rfl ?_ ?_
  · intro g1_3
    refine s_no rfl rfl rfl rfl (s_no rfl rfl rfl rfl (s_no rfl rfl rfl rfl (s_val rfl (v_pick_t rfl rfl) (x_nil (n_then (x_ift rfl (x_seq (x_region (s_val rfl (v_build Tryz.underlying139 Tryz.zeroValue139 (sized_cons Tryz.sizeOf47 (sized_cons Tryz.sizeOf47 (sized_cons Tryz.sizeOf47 (sized_cons Tryz.sizeOf47 sized_nil)))) fil_nil) ?_)))))))))
    refine s_do0 (d_storeAll Tryz.sizeOf139 rfl rfl rfl rfl rfl) ?_
    rintro _ _ rfl
    refine s_val rfl (v_assign rfl) (x_nil (n_then (x_ret (r_then (x_done (.inl rfl) (.cons (r_all Tryz.isAgg139 Tryz.sizeOf139 rfl rfl) (.cons (r_tmp rfl) .nil)) ?_)))))
    refine ⟨_, ⟨?_, rfl⟩, inferInstance⟩
    have hl : lk fr pg r at_ n wr = (zD, 1) := by unfold lk; rw [if_pos (by omega)]
    rw [hl]; rfl
  · intro g1_3
    refine s_val rfl (v_move rfl) (s_yes rfl rfl ?_)
    refine s_val rfl (v_fieldAddr rfl Tryz.underlying71 rfl Tryz.sizeOf3 rfl (by first | exact Nat.zero_add _ | rfl)) ?_
    refine s_yes rfl rfl (s_val rfl (v_load Tryz.isAgg3 rfl (cell_own rfl)) ?_)
    refine s_yes rfl rfl (s_val rfl (v_geq rfl rfl) (s_val rfl (v_pick_f rfl rfl) (x_nil (n_then ?_))))
    refine x_if rfl ?_ ?_
    · intro c1
      refine x_seq (x_region (s_val rfl (v_build Tryz.underlying139 Tryz.zeroValue139 (sized_cons Tryz.sizeOf47 (sized_cons Tryz.sizeOf47 (sized_cons Tryz.sizeOf47 (sized_cons Tryz.sizeOf47 sized_nil)))) fil_nil) ?_))
      refine s_do0 (d_storeAll Tryz.sizeOf139 rfl rfl rfl rfl rfl) ?_
      rintro _ _ rfl
      refine s_val rfl (v_assign rfl) (x_nil (n_then (x_ret (r_then (x_done (.inl rfl) (.cons (r_all Tryz.isAgg139 Tryz.sizeOf139 rfl rfl) (.cons (r_tmp rfl) .nil)) ?_)))))
      refine ⟨_, ⟨?_, rfl⟩, inferInstance⟩
      have hl : lk fr pg r at_ n wr = (zD, 1) := by unfold lk; rw [if_pos (by omega)]
      rw [hl]; rfl
    · intro c1
      refine x_skip (n_then (x_seq (x_seq (x_region (s_val rfl (v_move rfl) ?_)))))
      refine s_val rfl (v_fieldAddr rfl Tryz.underlying71 rfl Tryz.sizeOf3 rfl (by first | exact Nat.zero_add _ | rfl)) ?_
      refine s_val rfl (v_load Tryz.isAgg3 rfl (cell_own rfl)) ?_
      refine s_val rfl (v_geq rfl rfl) (x_nil (n_then ?_))
      refine x_if rfl ?_ ?_
      · intro c3
        refine x_seq (x_region (s_val rfl (v_build Tryz.underlying139 Tryz.zeroValue139 (sized_cons Tryz.sizeOf47 (sized_cons Tryz.sizeOf47 (sized_cons Tryz.sizeOf47 (sized_cons Tryz.sizeOf47 sized_nil)))) fil_nil) ?_))
        refine s_do0 (d_storeAll Tryz.sizeOf139 rfl rfl rfl rfl rfl) ?_
        rintro _ _ rfl
        refine s_val rfl (v_assign rfl) (x_nil (n_then (x_ret (r_then (x_done (.inl rfl) (.cons (r_all Tryz.isAgg139 Tryz.sizeOf139 rfl rfl) (.cons (r_tmp rfl) .nil)) ?_)))))
        refine ⟨_, ⟨?_, rfl⟩, inferInstance⟩
        have hl : lk fr pg r at_ n wr = (zD, 2) := by unfold lk; rw [if_neg (by omega), if_pos (by omega)]
        rw [hl]; rfl
      · intro c3
        refine x_skip (n_then (x_seq ?_))
        obtain ⟨k, rfl⟩ : ∃ k : Nat, at_ = (k : Int) := ⟨at_.toNat, by omega⟩
        obtain ⟨dd, hdd⟩ : ∃ x, dsAt fr pg r k = x := ⟨_, rfl⟩
        have hok := dsAt_ok hF pg r k
        rw [hdd] at hok
        obtain ⟨rn, hrn⟩ : ∃ x : Nat, r.n = (x : Int) := ⟨r.n.toNat, by omega⟩
        refine x_region (s_val rfl (v_move rfl) ?_)
        refine s_val rfl (v_fieldAddr rfl Tryz.underlying71 rfl Tryz.sizeOf47 rfl (by first | exact Nat.zero_add _ | rfl)) ?_
        refine s_val rfl (v_load Tryz.isAgg47 rfl (cell_own rfl)) ?_
        refine s_val rfl (v_move rfl) ?_
        refine s_val rfl (v_conv Tryz.underlying3 Tryz.underlying47 rfl (w32u (by omega))) ?_
        refine s_val rfl (v_mul rfl rfl (by rw [w32u (by omega)]; omega : IntKind.wrap .u32 (16 * (k : Int)) = ((16 * k : Nat) : Int))) ?_
        refine s_val rfl (v_add rfl rfl (wrapN (r.desc + 16 * k))) ?_
        refine s_do rfl (d_call3 Tryz.call160 rfl (rvRead_spec W0 _ qv qs qm d fr pg h hF (dsPa r k) (dsPa_lt r k) 16)) ?_
        rintro _ B_ ⟨a, c, rfl, hB_⟩
        obtain rfl := hB_.symm
        refine s_val rfl (v_move rfl) (s_val rfl (v_extract rfl rfl) (s_val rfl (v_extract rfl rfl) (s_val rfl (v_assign rfl) (s_val rfl (v_assign rfl) (x_nil (n_then (x_seq (x_seq (x_region (s_val rfl (v_move rfl) (s_val rfl (v_not rfl) (x_nil (n_then ?_)))))))))))))
        refine x_if rfl ?_ ?_
        · intro c6
          have ho : ownB fr.length pg (dsPa r k) 16 = false := by simpa using c6
          refine x_seq (x_region (s_val rfl (v_build Tryz.underlying139 Tryz.zeroValue139 (sized_cons Tryz.sizeOf47 (sized_cons Tryz.sizeOf47 (sized_cons Tryz.sizeOf47 (sized_cons Tryz.sizeOf47 sized_nil)))) fil_nil) ?_))
          refine s_do0 (d_storeAll Tryz.sizeOf139 rfl rfl rfl rfl rfl) ?_
          rintro _ _ rfl
          refine s_val rfl (v_assign rfl) (x_nil (n_then (x_ret (r_then (x_done (.inl rfl) (.cons (r_all Tryz.isAgg139 Tryz.sizeOf139 rfl rfl) (.cons (r_tmp rfl) .nil)) ?_)))))
          refine ⟨_, ⟨?_, rfl⟩, inferInstance⟩
          have hl : lk fr pg r k n wr = (zD, 5) := by unfold lk; rw [if_neg (by omega), if_neg (by omega), Int.toNat_natCast, if_pos ho]
          rw [hl]; rfl
        · intro c6
          have ho : ownB fr.length pg (dsPa r k) 16 = true := Decidable.not_not.1 c6
          have ho' : ¬ ownB fr.length pg (dsPa r k) 16 = false := by rw [ho]; decide
          have hrd : rdO fr pg (dsPa r k) 16 = rdL fr pg (dsPa r k) 16 := by rw [rdO, if_pos ho]; rfl
          have hln : (rdL fr pg (dsPa r k) 16).length = 16 := rdL_len _ _ _ _
          have hda : dsOf (rdL fr pg (dsPa r k) 16) = dd := by rw [← hdd, dsAt, if_pos ho]
          rw [hrd]
          refine run_sla (E := 5) (sz := 1) (a := a) (c := c) (n := (rdL fr pg (dsPa r k) 16).length) (fun x => [bV x]) (rdL fr pg (dsPa r k) 16) (fun _ => rfl) (by decide) (byV_fm _).symm (fun hs1 => ?_)
          refine run_cap (E := 5) (sz := 1) (a := a) (c := c) (n := (rdL fr pg (dsPa r k) 16).length) (fun hcap => ?_)
          refine x_skip (n_then (x_seq (x_region (s_val rfl (v_move rfl) ?_))))
          refine s_do rfl (d_call Tryz.call251 rfl (rdGet_spec W0 _ a c _ hs1 (rdL_by hF _ _ _) hcap.1 (by rw [hln]; decide) (maxLen_lt hcap.2))) ?_
          rintro _ B_ ⟨rfl, hB_⟩
          obtain rfl := hB_.symm
          rw [if_pos hln, if_pos hln, hda]
          refine s_val rfl (v_move rfl) (s_val rfl (v_extract rfl rfl) (s_val rfl (v_extract rfl rfl) (s_do rfl (d_allocA Tryz.zeroValue139) ?_)))
          rintro _ _ ⟨bd, rfl, rfl⟩
          refine s_do0 (d_storeAll Tryz.sizeOf139 rfl rfl rfl rfl rfl) ?_
          rintro _ _ rfl
          refine s_val rfl (v_assign rfl) (x_nil (n_then (x_seq ?_)))
          rw [show rgV r = [.int .u32 r.desc, .int .u32 r.avail, .int .u32 r.used, .int .i64 rn] by rw [← hrn]]
          refine x_region (s_val rfl (v_loadAll Tryz.isAgg139 Tryz.sizeOf139 rfl rfl) ?_)
          refine s_val rfl (v_fieldAddr rfl Tryz.underlying71 rfl Tryz.sizeOf3 rfl (by first | exact Nat.zero_add _ | rfl)) ?_
          refine s_val rfl (v_load Tryz.isAgg3 rfl (cell_own rfl)) ?_
          refine s_do rfl (d_call Tryz.call252 rfl (rdCheck_spec W0 _ dd hok rn (by omega))) ?_
          rintro _ B_ ⟨rfl, hB_⟩
          obtain rfl := hB_.symm
          refine s_val rfl (v_assign rfl) (x_nil (n_then (x_seq (x_seq (x_region (s_val rfl (v_move rfl) (s_val rfl (v_neq rfl rfl) (x_nil (n_then ?_)))))))))
          refine x_if rfl ?_ ?_
          · intro c10
            refine x_seq (x_region (s_val rfl (v_build Tryz.underlying139 Tryz.zeroValue139 (sized_cons Tryz.sizeOf47 (sized_cons Tryz.sizeOf47 (sized_cons Tryz.sizeOf47 (sized_cons Tryz.sizeOf47 sized_nil)))) fil_nil) ?_))
            refine s_val rfl (v_move rfl) (s_do0 (d_storeAll Tryz.sizeOf139 rfl rfl rfl rfl rfl) ?_)
            rintro _ _ rfl
            refine s_val rfl (v_assign rfl) (x_nil (n_then (x_ret (r_then (x_done (.inl rfl) (.cons (r_all Tryz.isAgg139 Tryz.sizeOf139 rfl rfl) (.cons (r_tmp rfl) .nil)) ?_)))))
            refine ⟨_, ⟨?_, rfl⟩, inferInstance⟩
            have hl : lk fr pg r k n wr = (zD, chkC dd rn) := by unfold lk; rw [if_neg (by omega), if_neg (by omega), Int.toNat_natCast, if_neg ho', hdd, show r.n.toNat = rn by omega, if_pos c10]
            rw [hl]; rfl
          · intro c10
            refine x_skip (n_then (x_seq (x_seq (x_region (s_val rfl (v_move rfl) ?_)))))
            refine s_val rfl (v_fieldAddr rfl Tryz.underlying139 rfl Tryz.sizeOf47 rfl (by first | exact Nat.zero_add _ | rfl)) ?_
            refine s_val rfl (v_load Tryz.isAgg47 rfl (cell_own rfl)) ?_
            refine s_val rfl (v_fieldAddr rfl Tryz.underlying139 rfl Tryz.sizeOf47 rfl (by first | exact Nat.zero_add _ | rfl)) ?_
            refine s_val rfl (v_load Tryz.isAgg47 rfl (cell_own rfl)) ?_
            refine s_val rfl (v_conv Tryz.underlying47 Tryz.underlying3 rfl (w64 (by have := hok.len; omega))) ?_
            refine s_do rfl (d_call3 Tryz.call135 rfl (rvOwn_spec W0 _ qv qs qm d fr pg h dd.addr hok.addr dd.len)) ?_
            rintro _ B_ ⟨rfl, hB_⟩
            obtain rfl := hB_.symm
            refine s_val rfl (v_not rfl) (x_nil (n_then ?_))
            refine x_if rfl ?_ ?_
            · intro c12
              have ho2 : ownB fr.length pg dd.addr dd.len = false := by simpa using c12
              refine x_seq (x_region (s_val rfl (v_build Tryz.underlying139 Tryz.zeroValue139 (sized_cons Tryz.sizeOf47 (sized_cons Tryz.sizeOf47 (sized_cons Tryz.sizeOf47 (sized_cons Tryz.sizeOf47 sized_nil)))) fil_nil) ?_))
              refine s_do0 (d_storeAll Tryz.sizeOf139 rfl rfl rfl rfl rfl) ?_
              rintro _ _ rfl
              refine s_val rfl (v_assign rfl) (x_nil (n_then (x_ret (r_then (x_done (.inl rfl) (.cons (r_all Tryz.isAgg139 Tryz.sizeOf139 rfl rfl) (.cons (r_tmp rfl) .nil)) ?_)))))
              refine ⟨_, ⟨?_, rfl⟩, inferInstance⟩
              have hl : lk fr pg r k n wr = (zD, 5) := by unfold lk; rw [if_neg (by omega), if_neg (by omega), Int.toNat_natCast, if_neg ho', hdd, show r.n.toNat = rn by omega, if_neg c10, if_pos ho2]
              rw [hl]; rfl
            · intro c12
              have ho2 : ¬ ownB fr.length pg dd.addr dd.len = false := by simpa using c12
              have hf4 : dd.flags < 4 := by
                rcases Nat.lt_or_ge dd.flags 4 with q | q
                · exact q
                · exact absurd (by rw [chkC, if_pos q]; decide) c10
              have hwb : wrB dd = true ↔ 2 ≤ dd.flags := by rw [wrB, decide_eq_true_iff]; omega
              refine x_skip (n_then (x_seq (x_seq (x_region (s_val rfl (v_move rfl) (s_val rfl (v_move rfl) ?_))))))
              refine s_and rfl rfl rfl ?_ ?_
              · intro g14_2
                refine s_val rfl (v_fieldAddr rfl Tryz.underlying139 rfl Tryz.sizeOf47 rfl (by first | exact Nat.zero_add _ | rfl)) ?_
                refine s_yes rfl rfl (s_val rfl (v_load Tryz.isAgg47 rfl (cell_own rfl)) ?_)
                refine s_yes rfl rfl (s_val rfl (v_lss rfl rfl) (s_val rfl (v_pick_t rfl rfl) (x_nil (n_then ?_))))
                refine x_if rfl ?_ ?_
                · intro c14
                  refine x_seq (x_region (s_val rfl (v_build Tryz.underlying139 Tryz.zeroValue139 (sized_cons Tryz.sizeOf47 (sized_cons Tryz.sizeOf47 (sized_cons Tryz.sizeOf47 (sized_cons Tryz.sizeOf47 sized_nil)))) fil_nil) ?_))
                  refine s_do0 (d_storeAll Tryz.sizeOf139 rfl rfl rfl rfl rfl) ?_
                  rintro _ _ rfl
                  refine s_val rfl (v_assign rfl) (x_nil (n_then (x_ret (r_then (x_done (.inl rfl) (.cons (r_all Tryz.isAgg139 Tryz.sizeOf139 rfl rfl) (.cons (r_tmp rfl) .nil)) ?_)))))
                  refine ⟨_, ⟨?_, rfl⟩, inferInstance⟩
                  have hl : lk fr pg r k n wr = (zD, 6) := by unfold lk; rw [if_neg (by omega), if_neg (by omega), Int.toNat_natCast, if_neg ho', hdd, show r.n.toNat = rn by omega, if_neg c10, if_neg ho2, if_pos ⟨g14_2, by rw [← Bool.not_eq_true, hwb]; omega⟩]
                  rw [hl]; rfl
                · intro c14
                  refine x_skip (n_then (x_seq (x_region (s_val rfl (v_loadAll Tryz.isAgg139 Tryz.sizeOf139 rfl rfl) ?_))))
                  refine s_do0 (d_storeAll Tryz.sizeOf139 rfl rfl rfl rfl rfl) ?_
                  rintro _ _ rfl
                  refine s_val rfl (v_assign rfl) (x_nil (n_then (x_ret (x_done (.inl rfl) (.cons (r_all Tryz.isAgg139 Tryz.sizeOf139 rfl rfl) (.cons (r_tmp rfl) .nil)) ?_))))
                  refine ⟨_, ⟨?_, rfl⟩, inferInstance⟩
                  have hl : lk fr pg r k n wr = (dd, 0) := by unfold lk; rw [if_neg (by omega), if_neg (by omega), Int.toNat_natCast, if_neg ho', hdd, show r.n.toNat = rn by omega, if_neg c10, if_neg ho2, if_neg (by rintro ⟨q1, q2⟩; rw [← Bool.not_eq_true, hwb] at q2; first | exact g14_2 q1 | omega)]
                  rw [hl]; rfl
              · intro g14_2
                refine s_no rfl rfl rfl rfl (s_no rfl rfl rfl rfl (s_val rfl (v_pick_f rfl rfl) (x_nil (n_then (x_iff rfl (x_skip (n_then (x_seq (x_region (s_val rfl (v_loadAll Tryz.isAgg139 Tryz.sizeOf139 rfl rfl) ?_))))))))))
                refine s_do0 (d_storeAll Tryz.sizeOf139 rfl rfl rfl rfl rfl) ?_
                rintro _ _ rfl
                refine s_val rfl (v_assign rfl) (x_nil (n_then (x_ret (x_done (.inl rfl) (.cons (r_all Tryz.isAgg139 Tryz.sizeOf139 rfl rfl) (.cons (r_tmp rfl) .nil)) ?_))))
                refine ⟨_, ⟨?_, rfl⟩, inferInstance⟩
                have hl : lk fr pg r k n wr = (dd, 0) := by unfold lk; rw [if_neg (by omega), if_neg (by omega), Int.toNat_natCast, if_neg ho', hdd, show r.n.toNat = rn by omega, if_neg c10, if_neg ho2, if_neg (by rintro ⟨q1, q2⟩; rw [← Bool.not_eq_true, hwb] at q2; first | exact g14_2 q1 | omega)]
                rw [hl]; rfl
theorem rcWalk_spec (W0 : World) (R : List HP) (qv qs qm d : Nat) (fr : List Frm) (pg : List Pl) (h : Pgs pg) (hF : Frs fr) (r : Rg3) (hr : r.ok) (head : Int) :
    Spec Tryz.prog W0 158 [.pointer (some ⟨qv, 0, none⟩), .agg (rgV r).toArray, .int .i64 head] (rvw qv qs qm d fr pg R)
      (fun v B => ∃ a c, v = .tuple #[.slice a (wkAll fr pg r head).1.length c, .int .i64 (wkAll fr pg r head).2] ∧ B = osl 139 4 (.slice a (wkAll fr pg r head).1.length c) ((wkAll fr pg r head).1.flatMap dsV) :: rvw qv qs qm d fr pg R) := by
  refine spec_body Tryz.func158 Tryz.ntmps158 rfl rfl ?_
  refine x_seq (x_region (s_do rfl (d_boxA rfl) ?_))
  rintro _ _ ⟨b1, rfl, rfl⟩
  refine s_val rfl (v_assign rfl) (s_val rfl (v_assign rfl) (x_nil (n_then (x_seq (x_seq (x_region (s_val rfl (v_loadAll Tryz.isAgg71 Tryz.sizeOf71 rfl rfl) ?_)))))))
  refine s_do rfl (d_call Tryz.call140 rfl (rdRight_spec W0 _ r)) ?_
  rintro _ B_ ⟨rfl, hB_⟩
  obtain rfl := hB_.symm
  refine s_val rfl (v_not rfl) (x_nil (n_then ?_))
  refine x_if rfl ?_ ?_
  · intro c1
    refine x_seq (x_region (s_val rfl (v_assign rfl) (s_val rfl (v_assign rfl) (x_nil (n_then (x_ret (r_then (x_done (.inl rfl) (.cons (r_tmp rfl) (.cons (r_tmp rfl) .nil)) ?_))))))))
    have hw : wkAll fr pg r head = ([], 5) := by rw [wkAll, if_neg c1]
    rw [hw]
    exact ⟨_, ⟨none, 0, rfl, rfl⟩, ent_osl_nil⟩
  · intro c1
    have hri : rgtB r = true := Decidable.not_not.1 c1
    have hn8 : 0 ≤ r.n ∧ r.n ≤ 8 := by have := (rgtB_iff.1 hri).2; simp only [szd, decide_eq_true_iff] at this; omega
    have hw : wkAll fr pg r head = wkGo fr pg r head 9 0 := by rw [wkAll, if_pos hri]
    refine x_skip (n_then (x_seq (x_region (s_val rfl (v_assign rfl) (x_nil (n_then (x_seq (x_region (s_val rfl (v_move rfl) (s_val rfl (v_assign rfl) (x_nil (n_then (x_seq (x_region (s_val rfl (v_assign rfl) (x_nil (n_then (x_seq (x_seq (x_region (s_val rfl (v_assign rfl) (x_nil (n_then ?_)))))))))))))))))))))))
    refine x_block ?_
    refine x_loop (fun X : Nat × Option Addr × Nat => alive fr pg r head X.1) (fun X => [(0, .pointer (some ⟨qv, 0, none⟩)), (4, .pointer (some ⟨b1, 0, none⟩)), (8, .slice X.2.1 X.1 X.2.2), (9, .int .i64 (wkSt fr pg r head X.1).1), (10, .bool (wkSt fr pg r head X.1).2.1), (11, .int .i64 X.1)]) (fun X => osl 139 4 (.slice X.2.1 X.1 X.2.2) ((wkSt fr pg r head X.1).2.2.flatMap dsV) :: pt b1 (cob (rgV r) 71) :: rvw qv qs qm d fr pg R) (fun X => 9 - X.1) (0, none, 0) ?_ ?_ ?_ ?_
    · exact fun m hm => absurd hm (Nat.not_lt_zero m)
    · repeat (first | exact sub_nil | refine sub_cons rfl ?_)
    · exact ent_osl_nil
    · intro ⟨n, a, c⟩ hal
      dsimp only at hal ⊢
      have hn := hal.le hn8
      have hlen := wkSt_len fr pg r head n
      have hdok := lk_ok hF pg r (wkSt fr pg r head n).1 n (wkSt fr pg r head n).2.1
      refine x_seq (x_seq (x_region (s_val rfl (v_move rfl) ?_)))
      refine s_val rfl (v_fieldAddr rfl Tryz.underlying71 rfl Tryz.sizeOf3 rfl (by first | exact Nat.zero_add _ | rfl)) ?_
      refine s_val rfl (v_load Tryz.isAgg3 rfl (cell_own rfl)) ?_
      refine s_val rfl (v_leq rfl rfl) (x_nil (n_then ?_))
      refine x_if rfl ?_ ?_
      · intro c7
        refine x_skip (n_then (x_seq (x_block (x_seq (x_region (s_val rfl (v_move rfl) (s_val rfl (v_loadAll Tryz.isAgg71 Tryz.sizeOf71 rfl rfl) ?_)))))))
        refine s_val rfl (v_move rfl) (s_val rfl (v_move rfl) (s_val rfl (v_move rfl) (s_do rfl (d_call3 Tryz.call220 rfl (rcWrong_spec W0 _ qv qs qm d fr pg h hF r hr hn8.2 (wkSt fr pg r head n).2.1 (wkSt fr pg r head n).1 n)) ?_)))
        rintro _ B_ ⟨rfl, hB_⟩
        obtain rfl := hB_.symm
        refine s_val rfl (v_move rfl) (s_val rfl (v_extract rfl rfl) (s_val rfl (v_extract rfl rfl) (s_do rfl (d_allocA Tryz.zeroValue139) ?_)))
        rintro _ _ ⟨bd, rfl, rfl⟩
        refine s_do0 (d_storeAll Tryz.sizeOf139 rfl rfl rfl rfl rfl) ?_
        rintro _ _ rfl
        refine s_val rfl (v_assign rfl) (x_nil (n_then (x_seq (x_seq (x_region (s_val rfl (v_move rfl) (s_val rfl (v_neq rfl rfl) (x_nil (n_then ?_)))))))))
        refine x_if rfl ?_ ?_
        · intro c10
          refine x_seq (x_region (s_val rfl (v_move rfl) (s_val rfl (v_assign rfl) (s_val rfl (v_assign rfl) (x_nil (n_then (x_ret (r_then (r_block (r_then (r_then (r_block (r_then (x_done (.inl rfl) (.cons (r_tmp rfl) (.cons (r_tmp rfl) .nil)) ?_))))))))))))))
          rw [hw, wkGo_stop hal hn c10]
          exact ⟨_, ⟨none, 0, rfl, rfl⟩, ent_osl_nil⟩
        · intro c10
          have hc : (lkN fr pg r head n).2 = 0 := Decidable.not_not.1 c10
          have hf4 : (lkN fr pg r head n).1.flags < 4 := lk_flags hc
          have hlt : (n : Int) < r.n := lk_n hc
          have hwb : decide ((2 : Int) ≤ ((lkN fr pg r head n).1.flags : Int)) = wrB (lkN fr pg r head n).1 := by rw [Bool.eq_iff_iff, wrB, decide_eq_true_iff, decide_eq_true_iff]; omega
          refine x_skip (n_then (x_seq (x_region (s_val rfl (v_move rfl) (s_val rfl (v_loadAll Tryz.isAgg139 Tryz.sizeOf139 rfl rfl) ?_)))))
          refine s_do rfl (d_sliceAgg Tryz.underlying43 Tryz.sizeOf139 Tryz.zeroValue139 rfl (elsK_cons rfl rfl elsK_nil) rfl (by decide) (by decide) (by decide)) ?_
          rintro _ _ ⟨b3, rfl, rfl⟩
          refine s_do rfl (d_append (sz := 4) (by_ := 16) (info := Tryz.t139) Tryz.underlying43 (by kernel_rfl) rfl rfl rfl rfl (by decide) rfl rfl cells_all rfl rfl (by simp only [maxLen]; omega) (by omega)) ?_
          rintro _ _ ⟨a1, c1, rfl, rfl⟩
          refine s_val rfl (v_assign rfl) (x_nil (n_then (x_seq (x_region ?_))))
          refine s_val rfl (v_fieldAddr rfl Tryz.underlying139 rfl Tryz.sizeOf47 rfl (by first | exact Nat.zero_add _ | rfl)) ?_
          refine s_val rfl (v_load Tryz.isAgg47 rfl (cell_own rfl)) ?_
          refine s_val rfl (v_geq rfl rfl) (s_val rfl (v_assign rfl) (x_nil (n_then (x_seq (x_seq (x_region ?_))))))
          refine s_val rfl (v_fieldAddr rfl Tryz.underlying139 rfl Tryz.sizeOf47 rfl (by first | exact Nat.zero_add _ | rfl)) ?_
          refine s_val rfl (v_load Tryz.isAgg47 rfl (cell_own rfl)) ?_
          refine s_val rfl (v_rem rfl rfl (by decide) (tmodN (lkN fr pg r head n).1.flags 2)) ?_
          refine s_val rfl (v_eql rfl rfl) (x_nil (n_then ?_))
          refine x_if rfl ?_ ?_
          · intro c14
            refine x_seq (x_region (s_val rfl (v_move rfl) (s_val rfl (v_assign rfl) (s_val rfl (v_assign rfl) (x_nil (n_then (x_ret (r_then (r_block (r_then (r_then (r_block (r_then (x_done (.inl rfl) (.cons (r_tmp rfl) (.cons (r_tmp rfl) .nil)) ?_))))))))))))))
            have hg : goB (lkN fr pg r head n).1 = false := by rw [goB, decide_eq_false_iff_not]; omega
            have hst : (wkSt fr pg r head (n + 1)).2.2 = (wkSt fr pg r head n).2.2 ++ [(lkN fr pg r head n).1] := rfl
            rw [hw, wkGo_end hal hn hc hg, hst, List.length_append, List.flatMap_append, hlen]
            refine ⟨_, ⟨a1, c1, rfl, rfl⟩, ?_⟩
            show Ent (osl 139 4 (.slice a1 (n + 1) c1) ((wkSt fr pg r head n).2.2.flatMap dsV ++ [dsV (lkN fr pg r head n).1].flatten) :: _) (osl 139 4 (.slice a1 (n + 1) c1) ((wkSt fr pg r head n).2.2.flatMap dsV ++ [dsV (lkN fr pg r head n).1].flatten) :: _)
            exact inferInstance
          · intro c14
            have hg : goB (lkN fr pg r head n).1 = true := by rw [goB, decide_eq_true_iff]; omega
            refine x_skip (n_then (x_region ?_))
            refine s_val rfl (v_fieldAddr rfl Tryz.underlying139 rfl Tryz.sizeOf47 rfl (by first | exact Nat.zero_add _ | rfl)) ?_
            refine s_val rfl (v_load Tryz.isAgg47 rfl (cell_own rfl)) ?_
            refine s_val rfl (v_conv Tryz.underlying47 Tryz.underlying3 rfl (w64 (by have := hdok.next; omega))) ?_
            refine s_val rfl (v_assign rfl) (x_nil (n_block (n_then (x_region (s_val rfl (v_move rfl) ?_)))))
            refine s_val rfl (v_add rfl rfl (by first | exact w64 (by omega) | rfl)) ?_
            refine s_val rfl (v_assign rfl) (x_nil (n_then ?_))
            refine inv_intro (n + 1, a1, c1) ?_ ?_ ?_ ?_
            · exact hal.succ hc hg
            · omega
            · have ew : Value.bool (wkSt fr pg r head (n + 1)).2.1 = .bool (decide ((2 : Int) ≤ ((lkN fr pg r head n).1.flags : Int))) := congrArg Value.bool hwb.symm
              dsimp only
              rw [ew]
              repeat (first | exact sub_nil | refine sub_cons rfl ?_)
            · have hst : (wkSt fr pg r head (n + 1)).2.2 = (wkSt fr pg r head n).2.2 ++ [(lkN fr pg r head n).1] := rfl
              dsimp only
              rw [hst, List.flatMap_append]
              show Ent (osl 139 4 (.slice a1 (n + 1) c1) ((wkSt fr pg r head n).2.2.flatMap dsV ++ [dsV (lkN fr pg r head n).1].flatten) :: _) (osl 139 4 (.slice a1 (n + 1) c1) ((wkSt fr pg r head n).2.2.flatMap dsV ++ [dsV (lkN fr pg r head n).1].flatten) :: _)
              exact inferInstance
      · intro c7
        refine x_exit (e_then (e_then (e_block (n_then (x_seq (x_region (s_val rfl (v_assign rfl) (s_val rfl (v_assign rfl) (x_nil (n_then (x_ret (x_done (.inl rfl) (.cons (r_tmp rfl) (.cons (r_tmp rfl) .nil)) ?_))))))))))))
        exfalso
        rcases Nat.eq_zero_or_pos n with q | q
        · omega
        · have := lk_n (hal (n - 1) (by omega)).1; omega
end Go.Proofs.YtncegikenkpcmaaGreat
namespace Go.Proofs.YtncegikenkpcmaaGreat
open Go.RowKit
set_option linter.unusedSimpArgs false
set_option linter.unusedVariables false
set_option maxRecDepth 20000
theorem lk_all {fr : List Frm} {pg : List Pl} {r : Rg3} {at_ : Int} {n : Nat} {wr : Bool} (h : (lk fr pg r at_ n wr).2 = 0) :
    ownB fr.length pg (lk fr pg r at_ n wr).1.addr (lk fr pg r at_ n wr).1.len = true ∧ (lk fr pg r at_ n wr).1.len ≤ 64 ∧ (wr = true → wrB (lk fr pg r at_ n wr).1 = true) := by
  unfold lk at h ⊢
  by_cases q1 : at_ < 0 ∨ r.n ≤ at_
  · rw [if_pos q1] at h; exact absurd h (by decide)
  rw [if_neg q1] at h ⊢
  by_cases q2 : r.n ≤ (n : Int)
  · rw [if_pos q2] at h; exact absurd h (by decide)
  rw [if_neg q2] at h ⊢
  by_cases q3 : ownB fr.length pg (dsPa r at_.toNat) 16 = false
  · rw [if_pos q3] at h; exact absurd h (by decide)
  rw [if_neg q3] at h ⊢
  by_cases q4 : chkC (dsAt fr pg r at_.toNat) r.n.toNat ≠ 0
  · rw [if_pos q4] at h; exact absurd h q4
  rw [if_neg q4] at h ⊢
  by_cases q5 : ownB fr.length pg (dsAt fr pg r at_.toNat).addr (dsAt fr pg r at_.toNat).len = false
  · rw [if_pos q5] at h; exact absurd h (by decide)
  rw [if_neg q5] at h ⊢
  by_cases q6 : wr = true ∧ wrB (dsAt fr pg r at_.toNat) = false
  · rw [if_pos q6] at h; exact absurd h (by decide)
  rw [if_neg q6]
  simp only
  refine ⟨by simpa using q5, ?_, fun hw => ?_⟩
  · rcases Nat.lt_or_ge 64 (dsAt fr pg r at_.toNat).len with q | q
    · exact absurd (by unfold chkC; repeat' split
                       all_goals first | decide | omega) q4
    · exact q
  · rcases hb : wrB (dsAt fr pg r at_.toNat) with _ | _
    · exact absurd ⟨hw, hb⟩ q6
    · rfl
theorem wkSt_get {fr : List Frm} {pg : List Pl} {r : Rg3} {head : Int} : ∀ n i (h : i < (wkSt fr pg r head n).2.2.length), (wkSt fr pg r head n).2.2[i] = (lkN fr pg r head i).1
  | 0, i, h => by simp [wkSt] at h
  | n + 1, i, h => by
    have hl := wkSt_len fr pg r head n
    have h' : i < n + 1 := by rw [wkSt_len] at h; exact h
    have e : (wkSt fr pg r head (n + 1)).2.2 = (wkSt fr pg r head n).2.2 ++ [(lkN fr pg r head n).1] := rfl
    rw [List.getElem_of_eq e]
    rcases Nat.lt_or_ge i n with q | q
    · rw [List.getElem_append_left (by omega)]; exact wkSt_get n i (by omega)
    · have : i = n := by omega
      subst this
      rw [List.getElem_append_right (by omega)]
      simp
structure WkOk (fr : List Frm) (pg : List Pl) (r : Rg3) (l : List Dsc) (c : Int) : Prop where
  zero : c = 0 ↔ 0 < l.length
  len : (l.length : Int) ≤ max r.n 0
  own : ∀ i (h : i < l.length), ownB fr.length pg l[i].addr l[i].len = true ∧ l[i].len ≤ 64 ∧ l[i].flags < 4
  ord : ∀ i (h : i + 1 < l.length), wrB l[i] = true → wrB l[i + 1] = true
  go : ∀ i (h : i < l.length), goB l[i] = true ↔ i + 1 < l.length
theorem wkAll_facts (fr : List Frm) (pg : List Pl) (r : Rg3) (head : Int) : WkOk fr pg r (wkAll fr pg r head).1 (wkAll fr pg r head).2 := by
  rcases wkAll_or fr pg r head with ⟨c, h, hc⟩ | ⟨m, hm, h, hal, hz, hg⟩
  · rw [h]
    exact ⟨⟨fun q => absurd q hc, fun q => by simp at q⟩, by simp; omega, fun i h => by simp at h, fun i h => by simp at h, fun i h => by simp at h⟩
  · rw [h]
    have hl := wkSt_len fr pg r head (m + 1)
    have hok : ∀ i, i < m + 1 → (lkN fr pg r head i).2 = 0 := fun i hi => by
      rcases Nat.lt_or_ge i m with q | q
      · exact (hal i q).1
      · rw [show i = m by omega]; exact hz
    refine ⟨⟨fun _ => by rw [hl]; omega, fun _ => rfl⟩, ?_, fun i hi => ?_, fun i hi hw => ?_, fun i hi => ?_⟩
    · have := lk_n hz; rw [hl]; omega
    · rw [wkSt_get]
      have hi' : i < m + 1 := by rw [← hl]; exact hi
      exact ⟨(lk_all (hok i hi')).1, (lk_all (hok i hi')).2.1, lk_flags (hok i hi')⟩
    · have hi' : i + 1 < m + 1 := by rw [← hl]; exact hi
      rw [wkSt_get] at hw ⊢
      refine (lk_all (hok (i + 1) hi')).2.2 ?_
      exact hw
    · have hi' : i < m + 1 := by rw [← hl]; exact hi
      simp only [hl]
      rw [wkSt_get]
      rcases Nat.lt_or_ge i m with q | q
      · exact ⟨fun _ => by omega, fun _ => (hal i q).2⟩
      · have : i = m := by omega
        subst this
        exact ⟨fun k => absurd k (by rw [hg]; decide), fun k => absurd k (by omega)⟩
theorem len_sum {l : List Dsc} (h : ∀ i (h : i < l.length), l[i].len ≤ 64) : lenW l true + lenW l false ≤ l.length * 64 := by
  induction l with
  | nil => simp [lenW]
  | cons d l ih =>
    have h0 := h 0 (by simp)
    have h1 := ih (fun i hi => by have := h (i + 1) (by simp; omega); simpa using this)
    simp only [List.getElem_cons_zero] at h0
    simp only [lenW, List.map_cons, List.sum_cons, List.length_cons] at h1 ⊢
    cases wrB d <;> simp <;> omega
end Go.Proofs.YtncegikenkpcmaaGreat
namespace Go.Proofs.YtncegikenkpcmaaGreat
open Go.RowKit
set_option linter.unusedSimpArgs false
set_option linter.unusedVariables false
set_option maxRecDepth 20000
end Go.Proofs.YtncegikenkpcmaaGreat
namespace Go.Proofs.YtncegikenkpcmaaGreat
open Go.RowKit
set_option linter.unusedSimpArgs false
set_option linter.unusedVariables false
set_option maxRecDepth 20000
section
variable {P : Program} {S : World → Prop} {W0 : World} {N : FSz} {e : Env} {A R : List HP} {t t' : TypeId} {x : Operand} {v : Value} {b : Nat} {vs : List Value}
end
theorem sla_byV {S : World → Prop} {b off : Nat} {bs : List Nat} (h : Cells S b off (byV bs)) : SlA S (some ⟨b, off, none⟩) 1 (fun x => [bV x]) bs := fun i x hi => ⟨b, off, rfl, fun j v hj => by
  have hj0 : j = 0 := by
    rcases Nat.eq_zero_or_pos j with q | q
    · exact q
    · rw [List.getElem?_eq_none (by simp; omega)] at hj; cases hj
  subst hj0
  have hx : (byV bs)[i]? = some v := by
    rw [byV, List.getElem?_map, hi]
    simpa [byV] using hj
  rw [Nat.mul_one, Nat.add_zero]
  exact h i v hx⟩
theorem sla_tail {S : World → Prop} {a : Option Addr} {bs : List Nat} {c i : Nat} (h : SlA S a 1 (fun x => [bV x]) bs) (hc : bs.length ≤ c) (hi : i ≤ bs.length) : SlA S (sliA a c i 1) 1 (fun x => [bV x]) (bs.drop i) := by
  have := h.sub (c := c) (i := i) (k := bs.length - i) (by omega) hc
  rwa [List.take_of_length_le (by rw [List.length_drop]; omega)] at this
theorem v_fieldA {P : Program} {S : World → Prop} {N : FSz} {e : Env} {x : Operand} {l l' : List Value} {T : TypeId} {fs : Array Field} {nm : String} {i ft fo n : Nat} {em : Bool} {tg pk : String} {bo : Nat} (hx : ev e x = some (.agg l.toArray)) (hu : P.underlying T = some (.struct fs)) (hf : fs.toList[i]? = some ⟨nm, ft, fo, em, tg, pk, bo⟩)
    (ha : ∀ w, (isAgg ft).run P w = .ok true w) (hs : ∀ w, (sizeOf ft).run P w = .ok n w) (hl : (l.drop fo).take n = l') : Val P S N e (.field T x i) (.agg l'.toArray) := fun a w _ _ _ _ _ hF _ => by
  have hf' : fs[i]? = some ⟨nm, ft, fo, em, tg, pk, bo⟩ := by simpa using hf
  simp only [execOp, Instr.field, hF.eval hx, Sem.run_bind, run_und hu, hf', Result.andThen_ok, asAgg, Sem.run_pure]
  rw [part_agg ha hs hl]; rfl
end Go.Proofs.YtncegikenkpcmaaGreat
namespace Go.Proofs.YtncegikenkpcmaaGreat
open Go.RowKit
set_option linter.unusedSimpArgs false
set_option linter.unusedVariables false
set_option maxRecDepth 20000
def z16 : List Nat := List.replicate 16 0
structure Dk where
  rs : List Rn
  lb : List Int
  ss : List (List Nat)
def secD (ss : List (List Nat)) (i : Nat) : List Nat := ss.getD i z16
def dkF (ss : List (List Nat)) : Int → Option Value := fun k => if 0 ≤ k ∧ k < 32 then (if secD ss k.toNat = z16 then none else some (.agg (byV (secD ss k.toNat)).toArray)) else none
structure DkOk (x : Dk) : Prop where
  tb : TbOk x.rs
  rl : x.rs.length ≤ 8
  ll : x.lb.length ≤ 8
  wh : ∀ i w, whF x.rs i = some w → 0 ≤ w ∧ w < x.lb.length
  sl : x.ss.length = 32
  sb : ∀ b ∈ x.ss, b.length = 16 ∧ By b
theorem z16_ok : z16.length = 16 ∧ By z16 := ⟨by decide, fun x hx => by
  have := List.eq_of_mem_replicate hx; omega⟩
theorem DkOk.sec {x : Dk} (h : DkOk x) (i : Nat) : (secD x.ss i).length = 16 ∧ By (secD x.ss i) := by
  unfold secD
  rcases Nat.lt_or_ge i x.ss.length with q | q
  · rw [show x.ss.getD i z16 = x.ss[i] by simp [List.getD, q]]; exact h.sb _ (List.getElem_mem q)
  · rw [show x.ss.getD i z16 = z16 by simp [List.getD, q]]; exact z16_ok
@[reducible] def dkO (bt bm : Nat) (aL : Option Addr) (n cL : Nat) : Obj := cob [.pointer (some ⟨bt, 0, none⟩), .slice aL n cL, .map (some bm)] 149
def dkH (d : Nat) (x : Dk) : HP := chk (fun C => ∃ bt bm aL cL, C = [pt d (dkO bt bm aL x.lb.length cL), tabH bt (x.rs, 32), osl 3 1 (.slice aL x.lb.length cL) (x.lb.flatMap inI), mapH bm (dkF x.ss)])
section
variable {W0 : World} {N : FSz} {K : Act → World → Prop} {e : Env} {A B R R1 R2 R3 R4 : List HP} {d : Nat} {x : Dk}
theorem run_dk [hk : Tk dkH d A x R] (h : ∀ bt bm aL cL, Run W0 N K e (pt d (dkO bt bm aL x.lb.length cL) :: tabH bt (x.rs, 32) :: osl 3 1 (.slice aL x.lb.length cL) (x.lb.flatMap inI) :: mapH bm (dkF x.ss) :: R)) : Run W0 N K e A :=
  run_tk (r := dkH) (b := d) (run_chk fun C hC => by obtain ⟨bt, bm, aL, cL, rfl⟩ := hC; exact h bt bm aL cL)
theorem ent_dk {bt bm n cL : Nat} {aL : Option Addr} {rs : List Rn} {ys : List Value} {f : Int → Option Value} [h1 : Tk pt d A (dkO bt bm aL n cL) R1] [h2 : Tk tabH bt R1 (rs, 32) R2] [h3 : Tk (osl 3 1) (.slice aL n cL) R2 ys R3] [h4 : Tk mapH bm R3 f R4]
    (e1 : rs = x.rs) (e2 : ys = x.lb.flatMap inI) (e3 : f = dkF x.ss) (e4 : n = x.lb.length) [k : Ent R4 B] : Ent A (dkH d x :: B) := by
  subst e1; subst e2; subst e3; subst e4
  have e : A.Perm ([pt d (dkO bt bm aL x.lb.length cL), tabH bt (x.rs, 32), osl 3 1 (.slice aL x.lb.length cL) (x.lb.flatMap inI), mapH bm (dkF x.ss)] ++ R4) := h1.perm.trans ((h2.perm.trans ((h3.perm.trans (h4.perm.cons _)).cons _)).cons _)
  exact (Ent.ofPerm e).trans ((ent_chk (R := R4) ⟨bt, bm, aL, cL, rfl⟩).trans (Ent.cons k))
end
theorem dkNone_spec (W0 : World) (R : List HP) (d bt bm n cL : Nat) (aL : Option Addr) : Spec Tryz.prog W0 100 [.pointer (some ⟨d, 0, none⟩)] (pt d (dkO bt bm aL n cL) :: R) (fun v B => v = .bool false ∧ B = pt d (dkO bt bm aL n cL) :: R) := by
  refine spec_body Tryz.func100 Tryz.ntmps100 rfl rfl ?_
  refine x_seq (x_region (s_val rfl (v_assign rfl) (x_nil (n_then (x_seq (x_region (s_val rfl (v_move rfl) (s_val rfl (v_eql_ptr_nil Tryz.underlying57 rfl rfl) (s_val rfl (v_move rfl) ?_)))))))))
  refine s_or rfl rfl rfl ?_ ?_
  · intro g1_3
    cases g1_3
  · intro g1_3
    refine s_val rfl (v_move rfl) (s_yes rfl rfl (s_val rfl (v_nilCheck rfl) (s_yes rfl rfl ?_)))
    refine s_val rfl (v_fieldAddr rfl Tryz.underlying149 rfl Tryz.sizeOf147 rfl (by first | exact Nat.zero_add _ | rfl)) ?_
    refine s_yes rfl rfl (s_val rfl (v_load Tryz.isAgg147 rfl (cell_own rfl)) ?_)
    refine s_yes rfl rfl (s_val rfl (v_eql_map_nil Tryz.underlying147 rfl rfl) ?_)
    refine s_val rfl (v_pick_f rfl rfl) (s_val rfl (v_assign rfl) (x_nil (n_then (x_ret (x_done (.inl rfl) (.cons (r_tmp rfl) .nil) ?_)))))
    exact ⟨_, ⟨rfl, rfl⟩, inferInstance⟩
def lbW (x : Dk) (at_ : Int) : Option Int := (whR x.rs 32 at_).map fun r => x.lb.getD r.toNat 0
theorem dkLabel_spec (W0 : World) (R : List HP) (d : Nat) (x : Dk) (hx : DkOk x) (at_ : Int) :
    Spec Tryz.prog W0 82 [.pointer (some ⟨d, 0, none⟩), .int .i64 at_] (dkH d x :: R) (fun v B => v = .tuple #[.int .i64 ((lbW x at_).getD 0), .int .i64 (if (lbW x at_).isSome then 0 else 3)] ∧ B = dkH d x :: R) := by
  obtain ⟨o, ho⟩ : ∃ o, whR x.rs 32 at_ = o := ⟨_, rfl⟩
  have hlb : lbW x at_ = o.map fun r => x.lb.getD r.toNat 0 := by rw [lbW, ho]
  have hrl := hx.rl
  refine spec_body Tryz.func82 Tryz.ntmps82 rfl rfl ?_
  refine x_seq (x_region (s_val rfl (v_assign rfl) (s_val rfl (v_assign rfl) (x_nil (n_then (x_seq (x_seq ?_)))))))
  refine run_dk (d := d) fun bt bm aL cL => ?_
  refine x_region (s_val rfl (v_move rfl) (s_do rfl (d_call1 Tryz.call100 rfl (dkNone_spec W0 _ d bt bm x.lb.length cL aL)) ?_))
  rintro _ B_ ⟨rfl, hB_⟩
  obtain rfl := hB_.symm
  refine x_nil (n_then ?_)
  refine x_if rfl ?_ ?_
  · intro c1
    exact absurd c1 (by decide)
  · intro c1
    refine x_skip (n_then (x_seq (x_region (s_val rfl (v_move rfl) (s_val rfl (v_nilCheck rfl) ?_)))))
    refine s_val rfl (v_fieldAddr rfl Tryz.underlying149 rfl Tryz.sizeOf144 rfl (by first | exact Nat.zero_add _ | rfl)) ?_
    refine s_val rfl (v_load Tryz.isAgg144 rfl (cell_own rfl)) ?_
    refine s_val rfl (v_move rfl) ?_
    refine s_do rfl (d_call1 Tryz.call148 rfl (paWho_spec W0 _ bt x.rs 32 hx.tb (by omega) at_)) ?_
    rintro _ B_ ⟨rfl, hB_⟩
    obtain rfl := hB_.symm
    rw [ho]
    refine s_val rfl (v_move rfl) (s_val rfl (v_extract rfl rfl) (s_val rfl (v_extract rfl rfl) (s_val rfl (v_assign rfl) (s_val rfl (v_assign rfl) (x_nil (n_then (x_seq (x_seq (x_region (s_val rfl (v_move rfl) (s_val rfl (v_not rfl) (x_nil (n_then ?_)))))))))))))
    refine x_if rfl ?_ ?_
    · intro c4
      refine x_seq (x_region (s_val rfl (v_assign rfl) (s_val rfl (v_assign rfl) (x_nil (n_then (x_ret (r_then (x_done (.inl rfl) (.cons (r_tmp rfl) (.cons (r_tmp rfl) .nil)) ?_))))))))
      have hn : o = none := by
        cases o with
        | none => rfl
        | some r => exact absurd rfl c4
      subst hn
      rw [hlb]
      exact ⟨_, ⟨rfl, rfl⟩, ent_dk rfl rfl rfl rfl⟩
    · intro c4
      obtain ⟨r, rfl⟩ : ∃ r, o = some r := by
        cases o with
        | none => exact absurd (by decide) c4
        | some r => exact ⟨r, rfl⟩
      have hwf : whF x.rs at_ = some r := by
        unfold whR at ho
        split at ho
        · cases ho
        · exact ho
      obtain ⟨hr0, hr1⟩ := hx.wh at_ r hwf
      obtain ⟨k, rfl⟩ : ∃ k : Nat, r = (k : Int) := ⟨r.toNat, by omega⟩
      have hk : k < x.lb.length := by omega
      refine run_sla (E := 3) (sz := 1) (a := aL) (n := x.lb.length) (c := cL) inI x.lb (fun _ => rfl) (by decide) rfl (fun hs => ?_)
      obtain ⟨g, o, rfl, hc⟩ := hs.at_ hk
      have hgk : x.lb.getD ((k : Nat) : Int).toNat 0 = x.lb[k] := by rw [Int.toNat_natCast]; simp [List.getD, hk]
      refine x_skip (n_then (x_seq (x_region (s_val rfl (v_move rfl) (s_val rfl (v_nilCheck rfl) ?_)))))
      refine s_val rfl (v_fieldAddr rfl Tryz.underlying149 rfl Tryz.sizeOf38 rfl (by first | exact Nat.zero_add _ | rfl)) ?_
      refine s_val rfl (v_load Tryz.isAgg38 rfl (cell_own rfl)) ?_
      refine s_val rfl (v_move rfl) ?_
      refine s_val rfl (v_idx Tryz.underlying38 Tryz.sizeOf3 rfl rfl rfl hk (by first | exact Nat.zero_add _ | rfl)) ?_
      refine s_val rfl (v_load Tryz.isAgg3 rfl (Cells.weak hc 0 _ rfl)) ?_
      refine s_val rfl (v_assign rfl) (s_val rfl (v_assign rfl) (x_nil (n_then (x_ret (x_done (.inl rfl) (.cons (r_tmp rfl) (.cons (r_tmp rfl) .nil)) ?_)))))
      rw [hlb]
      simp only [Option.map_some, Option.getD_some, Option.isSome_some, if_true, hgk]
      exact ⟨_, ⟨rfl, rfl⟩, ent_dk rfl rfl rfl rfl⟩
def dkSet (x : Dk) (k : Nat) (b : List Nat) : Dk := { x with ss := x.ss.set k b }
theorem dkSet_ok {x : Dk} (h : DkOk x) {k : Nat} {b : List Nat} (hb : b.length = 16 ∧ By b) : DkOk (dkSet x k b) :=
  ⟨h.tb, h.rl, h.ll, h.wh, by simp [dkSet, h.sl], fun c hc => by
    rcases List.mem_or_eq_of_mem_set hc with q | q
    · exact h.sb c q
    · rw [q]; exact hb⟩
theorem dkF_set {ss : List (List Nat)} {k : Nat} {b : List Nat} (hl : ss.length = 32) (hk : k < 32) : dkF (ss.set k b) = mupd (dkF ss) (k : Int) (if b = z16 then none else some (.agg (byV b).toArray)) := by
  funext j
  unfold mupd dkF secD
  by_cases hj : j = (k : Int)
  · subst hj
    rw [if_pos (by omega), if_pos rfl, Int.toNat_natCast, show (ss.set k b).getD k z16 = b by simp [List.getD, hl, hk]]
  · rw [if_neg hj]
    by_cases h2 : 0 ≤ j ∧ j < 32
    · rw [if_pos h2, if_pos h2]
      have hne : ¬ k = j.toNat := by omega
      have e : (ss.set k b).getD j.toNat z16 = ss.getD j.toNat z16 := by simp [List.getD, List.getElem?_set, hne]
      rw [e]
    · rw [if_neg h2, if_neg h2]
theorem run_where {W0 : World} {N : FSz} {K : Act → World → Prop} {e : Env} {A R : List HP} {E sz : Nat} {vi : Value} {ys : List Value} [h : Tk (osl E sz) vi A ys R] (hne : ys ≠ []) (k : ∀ g n c, vi = .slice (some ⟨g, 0, none⟩) n c → ys.length = n * sz → Run W0 N K e A) : Run W0 N K e A := fun act w hF hO => by
  rcases (hO.tk (r := osl E sz) (b := vi)).osl with ⟨_, k2, _⟩ | ⟨g, n', cap, sp, k1, _, _, k4, _, _⟩
  · exact absurd k2 hne
  · exact k g n' cap k1 k4 act w hF hO
theorem ent_dkS {A B R1 R2 R3 R4 : List HP} {d bt bm n cL k : Nat} {x : Dk} {b : List Nat} {aL : Option Addr} {rs : List Rn} {ys : List Value} {f : Int → Option Value} [h1 : Tk pt d A (dkO bt bm aL n cL) R1] [h2 : Tk tabH bt R1 (rs, 32) R2] [h3 : Tk (osl 3 1) (.slice aL n cL) R2 ys R3] [h4 : Tk mapH bm R3 f R4]
    (e1 : rs = x.rs) (e2 : ys = x.lb.flatMap inI) (e3 : f = dkF (x.ss.set k b)) (e4 : n = x.lb.length) [Ent R4 B] : Ent A (dkH d (dkSet x k b) :: B) := ent_dk (x := dkSet x k b) e1 e2 e3 e4
theorem sla_whole {S : World → Prop} {a : Option Addr} {bs : List Nat} (hs : SlA S a 1 (fun x => [bV x]) bs) (h : 0 < bs.length) : ∃ b off, a = some ⟨b, off, none⟩ ∧ Cells S b off (byV bs) := by
  obtain ⟨b, off, rfl, _⟩ := hs 0 bs[0] (by simp [h])
  refine ⟨b, off, rfl, fun i v hi => ?_⟩
  have hi' : i < bs.length := by
    have := (List.getElem?_eq_some_iff.1 hi).1
    rwa [byV_len] at this
  have hv : bV bs[i] = v := by
    have := (List.getElem?_eq_some_iff.1 hi).2
    rw [← this]; simp [byV]
  obtain ⟨b', off', e, hc⟩ := hs i bs[i] (by simp [hi'])
  cases e
  have := hc 0 v (by rw [← hv]; rfl)
  rwa [Nat.mul_one, Nat.add_zero] at this
theorem byV_ints (b : List Nat) : byV b = (b.map Int.ofNat).map (Value.int .u8) := by simp [byV, bV]
theorem ints_eq {a b : List Nat} : (a.map Int.ofNat == b.map Int.ofNat) = decide (a = b) := by
  rw [Bool.eq_iff_iff, beq_iff_eq, decide_eq_true_iff]
  exact ⟨fun h => (List.map_inj_right (fun x y h => Int.ofNat.inj h)).1 h, fun h => by rw [h]⟩
theorem dkPut_spec (W0 : World) (R : List HP) (d : Nat) (x : Dk) (hx : DkOk x) (k : Nat) (hk : k < 32) (bb off c : Nat) (bs : List Nat) (hb : bs.length = 16 ∧ By bs) (hc : Cells (OwnP W0 R) bb off (byV bs)) :
    Spec Tryz.prog W0 83 [.pointer (some ⟨d, 0, none⟩), .int .i64 k, .slice (some ⟨bb, off, none⟩) 16 c] (dkH d x :: R) (fun v B => v = .tuple #[] ∧ B = dkH d (dkSet x k bs) :: R) := by
  refine spec_body Tryz.func83 Tryz.ntmps83 rfl rfl ?_
  refine x_seq (x_region (s_do rfl (d_allocA Tryz.zeroValue244) ?_))
  rintro _ _ ⟨bs_, rfl, rfl⟩
  refine x_nil (n_then (x_seq (x_region (s_val rfl (v_sliceArr Tryz.underlying244 Tryz.sizeOf5 rfl) ?_))))
  refine s_val rfl (v_move rfl) ?_
  refine s_do rfl (d_copy Tryz.underlying44 Tryz.sizeOf5 rfl rfl (m := 16) (vs := byV bs) rfl hc.weak (by rw [byV_len, hb.1]) (byV_one _) (by decide) (by have := setR_all (byV bs) (List.replicate 16 (.int .u8 0)) [] (by rw [byV_len, hb.1]; rfl); simpa using this)) ?_
  rintro _ B_ ⟨rfl, hB_⟩
  obtain rfl := hB_.symm
  refine x_nil (n_then (x_seq (x_seq (x_region ?_))))
  refine s_val rfl (v_loadAll Tryz.isAgg244 Tryz.sizeOf244 rfl (by rw [byV_len]; exact hb.1)) ?_
  refine s_val rfl (v_build0 Tryz.underlying244 Tryz.sizeOf5 Tryz.zeroValue244 rfl) ?_
  refine s_val rfl (v_eql_agg Tryz.eqGuardType244 rfl rfl (q_arrI (i := Tryz.t5) (ms := bs.map Int.ofNat) (ns := z16.map Int.ofNat) Tryz.underlying244 (by kernel_rfl) (by kernel_rfl) Tryz.underlying5 Tryz.isAgg5 (byV_ints bs) rfl (by rw [List.length_map]; exact hb.1) rfl)) ?_
  refine x_nil (n_then ?_)
  refine x_if rfl ?_ ?_
  · intro c2
    refine x_seq ?_
    have hz : bs = z16 := by rw [ints_eq] at c2; exact of_decide_eq_true c2
    refine run_dk (d := d) fun bt bm aL cL => ?_
    refine x_region (s_val rfl (v_move rfl) (s_val rfl (v_nilCheck rfl) ?_))
    refine s_val rfl (v_fieldAddr rfl Tryz.underlying149 rfl Tryz.sizeOf147 rfl (by first | exact Nat.zero_add _ | rfl)) ?_
    refine s_val rfl (v_load Tryz.isAgg147 rfl (cell_own rfl)) ?_
    refine s_val rfl (v_move rfl) (s_do0 (d_delete Tryz.underlying147 Tryz.underlying3 rfl rfl) ?_)
    rintro _ B_ ⟨rfl, hB_⟩
    obtain rfl := hB_.symm
    refine x_nil (n_then (x_ret (r_then (x_done (.inl rfl) .nil ?_))))
    exact ⟨_, ⟨rfl, rfl⟩, ent_dkS (x := x) (k := k) (b := bs) rfl rfl (by rw [dkF_set hx.sl hk, if_pos hz]) rfl⟩
  · intro c2
    refine x_skip (n_then ?_)
    have hz : ¬ bs = z16 := by rw [ints_eq] at c2; exact of_decide_eq_false (by simpa using c2)
    refine run_dk (d := d) fun bt bm aL cL => ?_
    refine x_draw [(d, 0, _), (bs_, 0, _)] 7 mixed rfl (sc_own (sc_own sc_end)) (fun hS => ?_)
    refine d_take 0 rfl rfl (by kernel_rfl) (by kernel_rfl) (by kernel_rfl) rfl hS (v_move rfl) ?_
    refine d_take 1 rfl rfl (by kernel_rfl) (by kernel_rfl) (by kernel_rfl) rfl hS (v_nilCheck rfl) ?_
    refine d_take 2 rfl rfl (by kernel_rfl) (by kernel_rfl) (by kernel_rfl) rfl hS (v_fieldAddr rfl Tryz.underlying149 rfl Tryz.sizeOf147 rfl (by first | exact Nat.zero_add _ | rfl)) ?_
    refine d_take 3 rfl rfl (by kernel_rfl) (by kernel_rfl) (by kernel_rfl) rfl hS (v_load Tryz.isAgg147 rfl (by first | exact cell_sc0 (k := 0) rfl rfl | exact cell_sc0 (k := 1) rfl rfl)) ?_
    refine d_take 4 rfl rfl (by kernel_rfl) (by kernel_rfl) (by kernel_rfl) rfl hS (v_move rfl) ?_
    refine d_take 5 rfl rfl (by kernel_rfl) (by kernel_rfl) (by kernel_rfl) rfl hS (v_loadAgg Tryz.isAgg244 Tryz.sizeOf244 rfl (by first | exact cells_sc (k := 0) rfl | exact cells_sc (k := 1) rfl) (by rw [byV_len]; exact hb.1)) ?_
    refine d_one 6 (by kernel_rfl) rfl rfl (d_mapUpdate Tryz.underlying147 Tryz.underlying3 rfl rfl rfl) rfl ?_; clear hS
    rintro _ _ rfl
    refine ⟨(sc_own (sc_own sc_end)), fun hS => ?_⟩
    refine d_done (by kernel_rfl) ?_; clear hS
    refine x_done (.inr rfl) .nil ?_
    exact ⟨_, ⟨rfl, rfl⟩, ent_dkS (x := x) (k := k) (b := bs) rfl rfl (by rw [dkF_set hx.sl hk, if_neg hz]) rfl⟩
theorem dkF_get {ss : List (List Nat)} {k : Nat} (hk : k < 32) {z : Value} (hz : z = .agg (byV z16).toArray) : (dkF ss (k : Int)).getD z = .agg (byV (secD ss k)).toArray := by
  unfold dkF
  rw [if_pos (by omega), Int.toNat_natCast]
  by_cases h : secD ss k = z16
  · rw [if_pos h, h]; exact hz
  · rw [if_neg h]; rfl
theorem dkCopied_spec (W0 : World) (R : List HP) (d : Nat) (x : Dk) (hx : DkOk x) (k : Nat) (hk : k < 32) :
    Spec Tryz.prog W0 101 [.pointer (some ⟨d, 0, none⟩), .int .i64 k] (dkH d x :: R) (fun v B => ∃ b, v = .slice (some ⟨b, 0, none⟩) 16 16 ∧ B = osl 5 1 (.slice (some ⟨b, 0, none⟩) 16 16) (byV (secD x.ss k)) :: dkH d x :: R) := by
  have hsec := hx.sec k
  refine spec_body Tryz.func101 Tryz.ntmps101 rfl rfl ?_
  refine x_seq (x_region (s_val rfl (v_assign rfl) (x_nil (n_then (x_seq ?_)))))
  refine run_dk (d := d) fun bt bm aL cL => ?_
  refine x_region (s_val rfl (v_move rfl) (s_val rfl (v_nilCheck rfl) ?_))
  refine s_val rfl (v_fieldAddr rfl Tryz.underlying149 rfl Tryz.sizeOf147 rfl (by first | exact Nat.zero_add _ | rfl)) ?_
  refine s_val rfl (v_load Tryz.isAgg147 rfl (cell_own rfl)) ?_
  refine s_val rfl (v_move rfl) (s_val rfl (v_lookupV (b := bm) (f := dkF x.ss) (k := (k : Int)) Tryz.underlying147 Tryz.underlying3 Tryz.zeroValue244 rfl rfl (dkF_get hk rfl)) ?_)
  refine s_do rfl (d_allocA Tryz.zeroValue244) ?_
  rintro _ _ ⟨b5, rfl, rfl⟩
  refine s_do0 (d_storeAll Tryz.sizeOf244 rfl rfl (by rw [byV_len]; exact hsec.1) (byV_one _) rfl) ?_
  rintro _ _ rfl
  refine x_nil (n_then (x_seq (x_region ?_)))
  refine s_do rfl (d_make (sz := 1) (by_ := 1) (info := Tryz.t5) Tryz.underlying44 (by kernel_rfl) rfl rfl rfl rfl (by decide) rfl rfl rfl rfl (by decide) (by decide)) ?_
  rintro _ _ ⟨bo, rfl, rfl⟩
  refine s_val rfl (v_assign rfl) (x_nil (n_then (x_seq (x_region (s_val rfl (v_move rfl) (s_val rfl (v_sliceArr Tryz.underlying244 Tryz.sizeOf5 rfl) ?_))))))
  refine s_do rfl (d_copy Tryz.underlying44 Tryz.sizeOf5 rfl rfl (m := 16) (vs := byV (secD x.ss k)) rfl (cells_all (b := b5)) (by rw [byV_len, hsec.1]) (byV_one _) (by decide) (by have := setR_all (byV (secD x.ss k)) (List.replicate (16 * 1) (.int .u8 0)) [] (by rw [byV_len, hsec.1]; rfl); simpa using this)) ?_
  rintro _ B_ ⟨rfl, hB_⟩
  obtain rfl := hB_.symm
  refine x_nil (n_then (x_seq (x_region (s_val rfl (v_move rfl) (s_val rfl (v_assign rfl) (x_nil (n_then (x_ret (x_done (.inl rfl) (.cons (r_tmp rfl) .nil) ?_)))))))))
  exact ⟨_, ⟨bo, rfl, rfl⟩, ent_osl0 (k := ent_dk rfl rfl rfl rfl) (by simp only [maxLen]; omega) (by rw [byV_len, hsec.1])⟩
theorem lbW_lt {x : Dk} {at_ : Int} {l : Int} (h : lbW x at_ = some l) : ∃ k : Nat, at_ = (k : Int) ∧ k < 32 := by
  unfold lbW whR at h
  split at h
  · cases h
  · exact ⟨at_.toNat, by omega, by omega⟩
def rdE (x : Dk) (who at_ : Int) : Int := match lbW x at_ with | none => 3 | some l => if flB l who then 0 else 8
theorem dkRead_spec (W0 : World) (R : List HP) (d : Nat) (x : Dk) (hx : DkOk x) (who at_ : Int) :
    Spec Tryz.prog W0 249 [.pointer (some ⟨d, 0, none⟩), .int .i64 who, .int .i64 at_] (dkH d x :: R) (fun v B => ∃ a n c, v = .tuple #[.slice a n c, .int .i64 (rdE x who at_)] ∧ n = (if rdE x who at_ = 0 then secD x.ss at_.toNat else []).length ∧ B = osl 5 1 (.slice a n c) (byV (if rdE x who at_ = 0 then secD x.ss at_.toNat else [])) :: dkH d x :: R) := by
  obtain ⟨o, ho⟩ : ∃ o, lbW x at_ = o := ⟨_, rfl⟩
  refine spec_body Tryz.func249 Tryz.ntmps249 rfl rfl ?_
  refine x_seq (x_region (s_val rfl (v_assign rfl) (s_val rfl (v_assign rfl) (x_nil (n_then (x_seq (x_region (s_val rfl (v_move rfl) (s_val rfl (v_move rfl) (s_do rfl (d_call1 Tryz.call82 rfl (dkLabel_spec W0 _ d x hx at_)) ?_))))))))))
  rintro _ B_ ⟨rfl, hB_⟩
  obtain rfl := hB_.symm
  rw [ho]
  refine s_val rfl (v_move rfl) (s_val rfl (v_extract rfl rfl) (s_val rfl (v_extract rfl rfl) (s_val rfl (v_assign rfl) (s_val rfl (v_assign rfl) (x_nil (n_then (x_seq (x_block (x_seq (x_region (s_val rfl (v_move rfl) (s_val rfl (v_neq rfl rfl) (s_val rfl (v_assign rfl) (x_nil (n_then ?_)))))))))))))))
  refine x_if rfl ?_ ?_
  · intro c2
    refine x_seq (x_region (s_val rfl (v_move rfl) (s_val rfl (v_assign rfl) (s_val rfl (v_assign rfl) (x_nil (n_then (x_ret (r_block (r_then (x_done (.inl rfl) (.cons (r_tmp rfl) (.cons (r_tmp rfl) .nil)) ?_))))))))))
    have hn : o = none := by
      cases o with
      | none => rfl
      | some l => exact absurd c2 (by simp)
    have he : rdE x who at_ = 3 := by rw [rdE, ho, hn]
    rw [he]
    subst hn
    exact ⟨_, ⟨none, 0, 0, rfl, rfl, rfl⟩, ent_osl_nil⟩
  · intro c2
    refine x_seq (x_region (s_val rfl (v_move rfl) (s_val rfl (v_move rfl) (s_do rfl (d_call Tryz.call39 rfl (lbFlows_spec W0 _ (o.getD 0) who)) ?_))))
    rintro _ B_ ⟨rfl, hB_⟩
    obtain rfl := hB_.symm
    refine s_val rfl (v_not rfl) (s_val rfl (v_assign rfl) (x_nil (n_then ?_)))
    refine x_if rfl ?_ ?_
    · intro c4
      refine x_seq (x_region (s_val rfl (v_assign rfl) (s_val rfl (v_assign rfl) (x_nil (n_then (x_ret (r_block (r_then (x_done (.inl rfl) (.cons (r_tmp rfl) (.cons (r_tmp rfl) .nil)) ?_)))))))))
      obtain ⟨l, rfl⟩ : ∃ l, o = some l := by
        cases o with
        | none => exact absurd (by simp) c2
        | some l => exact ⟨l, rfl⟩
      have he : rdE x who at_ = 8 := by rw [rdE, ho]; exact if_neg (by simpa using c4)
      rw [he]
      exact ⟨_, ⟨none, 0, 0, rfl, rfl, rfl⟩, ent_osl_nil⟩
    · intro c4
      refine x_skip (n_block (n_then (x_seq ?_)))
      obtain ⟨l, rfl⟩ : ∃ l, o = some l := by
        cases o with
        | none => exact absurd (by simp) c2
        | some l => exact ⟨l, rfl⟩
      obtain ⟨k, rfl, hk⟩ := lbW_lt ho
      have he : rdE x who k = 0 := by rw [rdE, ho]; exact if_pos (by simpa using c4)
      refine x_region (s_val rfl (v_move rfl) (s_val rfl (v_move rfl) (s_do rfl (d_call1 Tryz.call101 rfl (dkCopied_spec W0 _ d x hx k hk)) ?_)))
      rintro _ B_ ⟨bo, rfl, hB_⟩
      obtain rfl := hB_.symm
      refine s_val rfl (v_assign rfl) (s_val rfl (v_assign rfl) (x_nil (n_then (x_ret (x_done (.inl rfl) (.cons (r_tmp rfl) (.cons (r_tmp rfl) .nil)) ?_)))))
      rw [he, if_pos rfl, Int.toNat_natCast]
      exact ⟨_, ⟨some ⟨bo, 0, none⟩, 16, 16, rfl, (hx.sec k).1.symm, rfl⟩, inferInstance⟩
def wrDE (x : Dk) (who at_ : Int) (n : Nat) : Int := match lbW x at_ with | none => 3 | some l => if flB who l then (if n = 16 then 0 else 1) else 8
def wrDk (x : Dk) (who at_ : Int) (b : List Nat) : Dk := if wrDE x who at_ b.length = 0 then dkSet x at_.toNat b else x
theorem wrDk_ok {x : Dk} (h : DkOk x) (who at_ : Int) {b : List Nat} (hb : By b) : DkOk (wrDk x who at_ b) := by
  unfold wrDk; split
  · rename_i he
    refine dkSet_ok h ⟨?_, hb⟩
    unfold wrDE at he
    split at he
    · exact absurd he (by decide)
    · split at he
      · split at he
        · assumption
        · exact absurd he (by decide)
      · exact absurd he (by decide)
  · exact h
theorem dkWrite_spec (W0 : World) (R : List HP) (d : Nat) (x : Dk) (hx : DkOk x) (who at_ : Int) (a : Option Addr) (c : Nat) (bs : List Nat) (hb : By bs) (hn : bs.length < 9223372036854775808) (hs : SlA (OwnP W0 R) a 1 (fun x => [bV x]) bs) :
    Spec Tryz.prog W0 250 [.pointer (some ⟨d, 0, none⟩), .int .i64 who, .int .i64 at_, .slice a bs.length c] (dkH d x :: R) (fun v B => v = .int .i64 (wrDE x who at_ bs.length) ∧ B = dkH d (wrDk x who at_ bs) :: R) := by
  obtain ⟨o, ho⟩ : ∃ o, lbW x at_ = o := ⟨_, rfl⟩
  refine spec_body Tryz.func250 Tryz.ntmps250 rfl rfl ?_
  refine x_seq (x_region (s_val rfl (v_assign rfl) (x_nil (n_then (x_seq (x_region (s_val rfl (v_move rfl) (s_val rfl (v_move rfl) (s_do rfl (d_call1 Tryz.call82 rfl (dkLabel_spec W0 _ d x hx at_)) ?_)))))))))
  rintro _ B_ ⟨rfl, hB_⟩
  obtain rfl := hB_.symm
  rw [ho]
  refine s_val rfl (v_move rfl) (s_val rfl (v_extract rfl rfl) (s_val rfl (v_extract rfl rfl) (s_val rfl (v_assign rfl) (s_val rfl (v_assign rfl) (x_nil (n_then (x_seq (x_block (x_seq (x_region (s_val rfl (v_move rfl) (s_val rfl (v_neq rfl rfl) (s_val rfl (v_assign rfl) (x_nil (n_then ?_)))))))))))))))
  refine x_if rfl ?_ ?_
  · intro c2
    refine x_seq (x_region (s_val rfl (v_move rfl) (s_val rfl (v_assign rfl) (x_nil (n_then (x_ret (r_block (r_then (x_done (.inl rfl) (.cons (r_tmp rfl) .nil) ?_)))))))))
    have hn : o = none := by
      cases o with
      | none => rfl
      | some l => exact absurd c2 (by simp)
    subst hn
    have he : wrDE x who at_ bs.length = 3 := by rw [wrDE, ho]
    rw [wrDk, he, if_neg (show ¬ (3 : Int) = 0 by decide)]
    exact ⟨_, ⟨rfl, rfl⟩, inferInstance⟩
  · intro c2
    refine x_seq (x_region (s_val rfl (v_move rfl) (s_val rfl (v_move rfl) (s_do rfl (d_call Tryz.call39 rfl (lbFlows_spec W0 _ who (o.getD 0))) ?_))))
    rintro _ B_ ⟨rfl, hB_⟩
    obtain rfl := hB_.symm
    refine s_val rfl (v_not rfl) (s_val rfl (v_assign rfl) (x_nil (n_then ?_)))
    refine x_if rfl ?_ ?_
    · intro c4
      refine x_seq (x_region (s_val rfl (v_assign rfl) (x_nil (n_then (x_ret (r_block (r_then (x_done (.inl rfl) (.cons (r_tmp rfl) .nil) ?_))))))))
      obtain ⟨l, rfl⟩ : ∃ l, o = some l := by
        cases o with
        | none => exact absurd (by simp) c2
        | some l => exact ⟨l, rfl⟩
      have he : wrDE x who at_ bs.length = 8 := by rw [wrDE, ho]; exact if_neg (by simpa using c4)
      rw [wrDk, he, if_neg (show ¬ (8 : Int) = 0 by decide)]
      exact ⟨_, ⟨rfl, rfl⟩, inferInstance⟩
    · intro c4
      refine x_seq ?_
      obtain ⟨l, rfl⟩ : ∃ l, o = some l := by
        cases o with
        | none => exact absurd (by simp) c2
        | some l => exact ⟨l, rfl⟩
      refine x_region (s_val rfl (v_move rfl) (s_val rfl (v_len_slice Tryz.underlying44 rfl) (s_val rfl (v_neq rfl rfl) (s_val rfl (v_assign rfl) (x_nil (n_then ?_))))))
      refine x_if rfl ?_ ?_
      · intro c6
        refine x_seq (x_region (s_val rfl (v_assign rfl) (x_nil (n_then (x_ret (r_block (r_then (x_done (.inl rfl) (.cons (r_tmp rfl) .nil) ?_))))))))
        have h16 : ¬ bs.length = 16 := by omega
        have he : wrDE x who at_ bs.length = 1 := by rw [wrDE, ho]; exact (if_pos (by simpa using c4)).trans (if_neg h16)
        rw [wrDk, he, if_neg (show ¬ (1 : Int) = 0 by decide)]
        exact ⟨_, ⟨rfl, rfl⟩, inferInstance⟩
      · intro c6
        refine x_skip (n_block (n_then (x_seq ?_)))
        have h16 : bs.length = 16 := by omega
        obtain ⟨k, rfl, hk⟩ := lbW_lt ho
        have he : wrDE x who k bs.length = 0 := by rw [wrDE, ho]; exact (if_pos (by simpa using c4)).trans (if_pos h16)
        obtain ⟨bb, off, rfl, hc⟩ := sla_whole hs (by omega)
        refine x_region (s_val rfl (v_move rfl) (s_val rfl (v_move rfl) (s_val rfl (v_move rfl) (s_do rfl (d_call1 Tryz.call83 rfl (h16 ▸ dkPut_spec W0 _ d x hx k hk bb off c bs ⟨h16, hb⟩ hc.weak)) ?_))))
        rintro _ B_ ⟨rfl, hB_⟩
        obtain rfl := hB_.symm
        refine x_nil (n_then (x_seq (x_region (s_val rfl (v_assign rfl) (x_nil (n_then (x_ret (x_done (.inl rfl) (.cons (r_tmp rfl) .nil) ?_))))))))
        rw [wrDk, he, if_pos rfl, Int.toNat_natCast]
        exact ⟨_, ⟨rfl, rfl⟩, inferInstance⟩
theorem dkBytes_spec (W0 : World) (R : List HP) (d : Nat) (x : Dk) (hx : DkOk x) (k : Nat) (hk : k < 32) :
    Spec Tryz.prog W0 29 [.pointer (some ⟨d, 0, none⟩), .int .i64 k] (dkH d x :: R) (fun v B => ∃ b, v = .tuple #[.slice (some ⟨b, 0, none⟩) 16 16, .bool true] ∧ B = osl 5 1 (.slice (some ⟨b, 0, none⟩) 16 16) (byV (secD x.ss k)) :: dkH d x :: R) := by
  refine spec_body Tryz.func29 Tryz.ntmps29 rfl rfl ?_
  refine x_seq (x_region (s_val rfl (v_assign rfl) (s_val rfl (v_assign rfl) (x_nil (n_then (x_seq (x_seq ?_)))))))
  refine run_dk (d := d) fun bt bm aL cL => ?_
  refine x_region (s_val rfl (v_move rfl) (s_do rfl (d_call1 Tryz.call100 rfl (dkNone_spec W0 _ d bt bm x.lb.length cL aL)) ?_))
  rintro _ B_ ⟨rfl, hB_⟩
  obtain rfl := hB_.symm
  refine s_val rfl (v_move rfl) ?_
  refine s_or rfl rfl rfl ?_ ?_
  · intro g1_3
    first | exact absurd g1_3 (by decide) | exact absurd g1_3 (by simp <;> omega)
  · intro g1_3
    refine s_val rfl (v_move rfl) (s_yes rfl rfl (s_val rfl (v_lss rfl rfl) (s_val rfl (v_pick_f rfl rfl) (s_val rfl (v_move rfl) ?_))))
    refine s_or rfl rfl rfl ?_ ?_
    · intro g1_7
      first | exact absurd g1_7 (by decide) | exact absurd g1_7 (by simp <;> omega)
    · intro g1_7
      refine s_val rfl (v_move rfl) (s_yes rfl rfl (s_val rfl (v_geq rfl rfl) (s_val rfl (v_pick_f rfl rfl) (x_nil (n_then ?_)))))
      refine x_if rfl ?_ ?_
      · intro c1
        exact absurd c1 (by simp <;> omega)
      · intro c1
        refine x_skip (n_then (x_seq (run_ent (B := dkH d x :: R) (ent_dk rfl rfl rfl rfl) ?_)))
        refine x_region (s_val rfl (v_move rfl) (s_val rfl (v_move rfl) (s_do rfl (d_call1 Tryz.call101 rfl (dkCopied_spec W0 _ d x hx k hk)) ?_)))
        rintro _ B_ ⟨bo, rfl, hB_⟩
        obtain rfl := hB_.symm
        refine s_val rfl (v_assign rfl) (s_val rfl (v_assign rfl) (x_nil (n_then (x_ret (x_done (.inl rfl) (.cons (r_tmp rfl) (.cons (r_tmp rfl) .nil)) ?_)))))
        exact ⟨_, ⟨bo, rfl, rfl⟩, inferInstance⟩
def ftB (s : ByteArray) (n : Nat) : List Nat := ((s.data.toList.take n).map fun b => b.toNat) ++ List.replicate (n - s.size) 0
theorem ftB_ok (s : ByteArray) (n : Nat) : (ftB s n).length = n ∧ By (ftB s n) := by
  have e : s.data.toList.length = s.size := by rw [Array.length_toList]; rfl
  refine ⟨by rw [ftB, List.length_append, List.length_map, List.length_take, List.length_replicate, e]; omega, fun x hx => ?_⟩
  rw [ftB] at hx
  rcases List.mem_append.1 hx with q | q
  · obtain ⟨b, _, rfl⟩ := List.mem_map.1 q; exact b.toNat_lt
  · have := List.eq_of_mem_replicate q; omega
theorem octFit_spec (W0 : World) (R : List HP) (s : ByteArray) (n : Nat) (hn : 1 ≤ n ∧ n ≤ 16384) :
    Spec Tryz.prog W0 84 [.string s, .int .i64 n] R (fun v B => ∃ b, v = .slice (some ⟨b, 0, none⟩) n n ∧ B = pt b (cob (byV (ftB s n)) 5) :: R) := by
  have e : s.data.toList.length = s.size := by rw [Array.length_toList]; rfl
  refine spec_body Tryz.func84 Tryz.ntmps84 rfl rfl ?_
  refine x_seq (x_region (s_val rfl (v_assign rfl) (x_nil (n_then (x_seq (x_region (s_val rfl (v_move rfl) ?_)))))))
  refine s_val rfl (v_min rfl rfl (r := (n : Int)) (by rw [if_neg (by omega)])) ?_
  refine s_val rfl (v_max rfl rfl (r := (n : Int)) (by rw [if_pos (by omega)])) ?_
  refine s_do rfl (d_make (sz := 1) (by_ := 1) (info := Tryz.t5) Tryz.underlying44 (by kernel_rfl) rfl rfl rfl rfl (by decide) rfl rfl (n := n) rfl rfl (by omega) (by decide)) ?_
  rintro _ _ ⟨bo, rfl, rfl⟩
  refine s_val rfl (v_assign rfl) (x_nil (n_then (x_seq (x_region (s_val rfl (v_move rfl) (s_val rfl (v_move rfl) ?_))))))
  refine s_do rfl (d_copyStr (b := bo) (m := min s.size n) Tryz.underlying44 Tryz.sizeOf5 rfl rfl rfl (by rw [List.length_replicate]; have := Nat.min_le_right s.size n; omega) (l' := byV (ftB s n)) (by
  rw [setR_eq _ _ _ (by rw [List.length_map, List.length_take, List.length_replicate]; have := Nat.min_le_right s.size n; omega), ftB, byV_append, List.take_zero, List.nil_append, List.drop_replicate, List.length_map, List.length_take, e, Nat.zero_add]
  congr 1
  · rw [byV, List.map_map]
    have : s.data.toList.take (min s.size n) = s.data.toList.take n := by
      rcases Nat.le_total s.size n with q | q
      · rw [Nat.min_eq_left q, List.take_of_length_le (by omega), List.take_of_length_le (by omega)]
      · rw [Nat.min_eq_right q]
    rw [this]; rfl
  · rw [byV, List.map_replicate]
    congr 1
    rcases Nat.le_total s.size n with q | q
    · rw [Nat.min_eq_left q]; omega
    · rw [Nat.min_eq_right q]; omega)) ?_
  rintro _ B_ ⟨rfl, hB_⟩
  obtain rfl := hB_.symm
  refine x_nil (n_then (x_seq (x_region (s_val rfl (v_move rfl) (s_val rfl (v_assign rfl) (x_nil (n_then (x_ret (x_done (.inl rfl) (.cons (r_tmp rfl) .nil) ?_)))))))))
  exact ⟨_, ⟨bo, rfl, rfl⟩, inferInstance⟩
def flD (x : Dk) (at_ : Int) (s : ByteArray) : Dk := if (lbW x at_).isSome then dkSet x at_.toNat (ftB s 16) else x
theorem flD_ok {x : Dk} (h : DkOk x) (at_ : Int) (s : ByteArray) : DkOk (flD x at_ s) := by
  unfold flD; split
  · exact dkSet_ok h (ftB_ok s 16)
  · exact h
theorem dkFill_spec (W0 : World) (R : List HP) (d : Nat) (x : Dk) (hx : DkOk x) (at_ : Int) (s : ByteArray) :
    Spec Tryz.prog W0 24 [.pointer (some ⟨d, 0, none⟩), .int .i64 at_, .string s] (dkH d x :: R) (fun v B => v = .int .i64 (if (lbW x at_).isSome then 0 else 3) ∧ B = dkH d (flD x at_ s) :: R) := by
  obtain ⟨o, ho⟩ : ∃ o, lbW x at_ = o := ⟨_, rfl⟩
  refine spec_body Tryz.func24 Tryz.ntmps24 rfl rfl ?_
  refine x_seq (x_region (s_val rfl (v_assign rfl) (x_nil (n_then (x_seq (x_seq (x_region (s_val rfl (v_move rfl) (s_val rfl (v_move rfl) (s_do rfl (d_call1 Tryz.call82 rfl (dkLabel_spec W0 _ d x hx at_)) ?_))))))))))
  rintro _ B_ ⟨rfl, hB_⟩
  obtain rfl := hB_.symm
  rw [ho]
  refine s_val rfl (v_move rfl) (s_val rfl (v_extract rfl rfl) (s_val rfl (v_extract rfl rfl) (s_val rfl (v_assign rfl) (s_val rfl (v_assign rfl) (x_nil (n_then (x_seq (x_region (s_val rfl (v_move rfl) (s_val rfl (v_neq rfl rfl) (x_nil (n_then ?_))))))))))))
  refine x_if rfl ?_ ?_
  · intro c2
    refine x_seq (x_region (s_val rfl (v_move rfl) (s_val rfl (v_assign rfl) (x_nil (n_then (x_ret (r_then (x_done (.inl rfl) (.cons (r_tmp rfl) .nil) ?_))))))))
    have hn : o = none := by
      cases o with
      | none => rfl
      | some l => exact absurd c2 (by simp)
    subst hn
    rw [flD, ho]
    simp only [Option.isSome_none, Bool.false_eq_true, if_false]
    exact ⟨_, ⟨rfl, rfl⟩, inferInstance⟩
  · intro c2
    refine x_skip (n_then (x_seq ?_))
    obtain ⟨l, rfl⟩ : ∃ l, o = some l := by
      cases o with
      | none => exact absurd (by simp) c2
      | some l => exact ⟨l, rfl⟩
    obtain ⟨k, rfl, hk⟩ := lbW_lt ho
    refine x_region (s_val rfl (v_move rfl) (s_val rfl (v_move rfl) (s_val rfl (v_move rfl) ?_)))
    refine s_do rfl (d_call Tryz.call84 rfl (octFit_spec W0 _ s 16 (by omega))) ?_
    rintro _ B_ ⟨bo, rfl, hB_⟩
    obtain rfl := hB_.symm
    refine s_do rfl (d_call1 Tryz.call83 rfl (dkPut_spec W0 _ d x hx k hk bo 0 16 (ftB s 16) (ftB_ok s 16) (cells_all (b := bo)))) ?_
    rintro _ B_ ⟨rfl, hB_⟩
    obtain rfl := hB_.symm
    refine x_nil (n_then (x_seq (x_region (s_val rfl (v_assign rfl) (x_nil (n_then (x_ret (x_done (.inl rfl) (.cons (r_tmp rfl) .nil) ?_))))))))
    rw [flD, ho]
    simp only [Option.isSome_some, if_true, Int.toNat_natCast]
    exact ⟨_, ⟨rfl, rfl⟩, inferInstance⟩
end Go.Proofs.YtncegikenkpcmaaGreat
namespace Go.Proofs.YtncegikenkpcmaaGreat
open Go.RowKit
set_option linter.unusedSimpArgs false
set_option linter.unusedVariables false
set_option maxRecDepth 20000
theorem v_fieldV {P : Program} {S : World → Prop} {N : FSz} {e : Env} {x : Operand} {v : Value} {l : List Value} {T : TypeId} {fs : Array Field} {nm : String} {i ft fo : Nat} {em : Bool} {tg pk : String} {bo : Nat} (hx : ev e x = some (.agg l.toArray)) (hu : P.underlying T = some (.struct fs)) (hf : fs.toList[i]? = some ⟨nm, ft, fo, em, tg, pk, bo⟩)
    (ha : ∀ w, (isAgg ft).run P w = .ok false w) (hl : l[fo]? = some v) : Val P S N e (.field T x i) v := fun a w _ _ _ _ _ hF _ => by
  have hf' : fs[i]? = some ⟨nm, ft, fo, em, tg, pk, bo⟩ := by simpa using hf
  simp only [execOp, Instr.field, hF.eval hx, Sem.run_bind, run_und hu, hf', Result.andThen_ok, asAgg, Sem.run_pure]
  rw [part_scal ha hl]; rfl
end Go.Proofs.YtncegikenkpcmaaGreat
namespace Go.Proofs.YtncegikenkpcmaaGreat
open Go.RowKit
set_option linter.unusedSimpArgs false
set_option linter.unusedVariables false
set_option maxRecDepth 20000
def PrS (ps : List Prt) : Prop := PrOk ps ∧ ∀ x ∈ ps, ∀ s ∈ x.l, s.size ≤ 32
theorem PrS.at_ {ps : List Prt} (h : PrS ps) {i : Nat} (hi : i < ps.length) : ∀ s ∈ (ps.getD i default).l, s.size ≤ 32 := by
  rw [show ps.getD i default = ps[i] by simp [List.getD, hi]]; exact h.2 _ (List.getElem_mem hi)
theorem PrS.set {ps : List Prt} (h : PrS ps) {i : Nat} {x : Prt} (hx : x.l.length ≤ mostP x) (hs : ∀ s ∈ x.l, s.size ≤ 32) : PrS (ps.set i x) := ⟨h.1.set hx, fun y hy => by
  rcases List.mem_or_eq_of_mem_set hy with q | q
  · exact h.2 y q
  · rw [q]; exact hs⟩
end Go.Proofs.YtncegikenkpcmaaGreat
namespace Go.Proofs.YtncegikenkpcmaaGreat
open Go.RowKit
set_option linter.unusedSimpArgs false
set_option linter.unusedVariables false
set_option maxRecDepth 20000
structure SvS where
  fr : List Frm
  d : Nat
  s : QS
  ps : List Prt
  c : Nat
  n : Nat
  b : Nat
  w : Int
@[reducible] def SvS.v (x : SvS) : List Value := [.int .i64 x.c, .int .i64 x.n, .int .i64 x.b, .int .i64 x.w]
def zB (c : Int) : Bool := decide (c = 0)
theorem tkS_r (fr : List Frm) (pg : List Pl) (s : QS) : (tkS fr pg s).r = s.r := by
  have := nxS_r fr pg s
  unfold tkS; split
  · split <;> exact this
  · exact this
theorem dnX_r (fr : List Frm) (pg : List Pl) (d : Nat) (s : QS) (h n : Nat) : (dnX fr pg d s h n).s.r = s.r := by
  unfold dnX; split
  · split
    · split
      · split <;> rfl
      · rfl
    · rfl
  · rfl
theorem tkR_ok {fr : List Frm} (hF : Frs fr) (pg : List Pl) (s : QS) : (∀ x ∈ (tkR fr pg s).2.1, x.ok) ∧ (tkR fr pg s).2.1.length ≤ 9 := by
  have h := wkAll_ok hF pg s.r (nxR fr pg s).1
  unfold tkR; split
  · split
    · exact ⟨fun x hx => by simp at hx, by simp⟩
    · exact h
  · exact ⟨fun x hx => by simp at hx, by simp⟩
end Go.Proofs.YtncegikenkpcmaaGreat
namespace Go.Proofs.YtncegikenkpcmaaGreat
open Go.RowKit
set_option linter.unusedSimpArgs false
set_option linter.unusedVariables false
set_option maxRecDepth 20000
def rdG (x : Dk) (who at_ : Int) : Nat → Option (List Nat)
  | 0 => some []
  | k + 1 => (rdG x who at_ k).bind fun l => if rdE x who (at_ + k) = 0 then some (l ++ secD x.ss (at_ + k).toNat) else none
theorem rdG_stop {x : Dk} {who at_ : Int} {i : Nat} (h : rdG x who at_ i = none) : ∀ {k : Nat}, i ≤ k → rdG x who at_ k = none := by
  intro k hk
  induction k with
  | zero => rwa [show i = 0 by omega] at h
  | succ k ih =>
    rcases Nat.lt_or_ge i (k + 1) with q | q
    · rw [rdG, ih (by omega)]; rfl
    · rwa [show i = k + 1 by omega] at h
theorem rdG_ok {x : Dk} (hx : DkOk x) {who at_ : Int} : ∀ {k : Nat} {l : List Nat}, rdG x who at_ k = some l → l.length = 16 * k ∧ By l
  | 0, l, h => by cases h; exact ⟨rfl, fun x hx => by simp at hx⟩
  | k + 1, l, h => by
    rw [rdG] at h
    cases e : rdG x who at_ k with
    | none => rw [e] at h; cases h
    | some l0 =>
      rw [e] at h
      obtain ⟨h1, h2⟩ := rdG_ok hx e
      have h' : (if rdE x who (at_ + k) = 0 then some (l0 ++ secD x.ss (at_ + k).toNat) else none) = some l := h
      split at h'
      · cases h'
        obtain ⟨s1, s2⟩ := hx.sec (at_ + k).toNat
        exact ⟨by rw [List.length_append, s1, h1]; omega, h2.append s2⟩
      · cases h'
theorem rdE_lt {x : Dk} {who at_ : Int} (h : rdE x who at_ = 0) : 0 ≤ at_ ∧ at_ < 32 := by
  unfold rdE at h
  split at h
  · exact absurd h (by decide)
  · rename_i l e
    obtain ⟨k, rfl, hk⟩ := lbW_lt e
    omega
def wrG (x : Dk) (who at_ : Int) (D : List Nat) : Nat → Dk × Option Nat
  | 0 => (x, none)
  | k + 1 => match wrG x who at_ D k with
    | (y, some f) => (y, some f)
    | (y, none) => if wrDE y who (at_ + k) ((D.drop (16 * k)).take 16).length = 0 then (wrDk y who (at_ + k) ((D.drop (16 * k)).take 16), none) else (y, some (16 * k))
theorem wrG_stop {x y : Dk} {who at_ : Int} {D : List Nat} {i f : Nat} (h : wrG x who at_ D i = (y, some f)) : ∀ {k : Nat}, i ≤ k → wrG x who at_ D k = (y, some f) := by
  intro k hk
  induction k with
  | zero => rwa [show i = 0 by omega] at h
  | succ k ih =>
    rcases Nat.lt_or_ge i (k + 1) with q | q
    · rw [wrG, ih (by omega)]
    · rwa [show i = k + 1 by omega] at h
theorem wrG_ok {x : Dk} (hx : DkOk x) (who at_ : Int) {D : List Nat} (hD : By D) : ∀ k, DkOk (wrG x who at_ D k).1 ∧ ∀ f, (wrG x who at_ D k).2 = some f → f < 16 * k ∧ 16 ∣ f
  | 0 => ⟨hx, fun f hf => by cases hf⟩
  | k + 1 => by
    obtain ⟨h1, h2⟩ := wrG_ok hx who at_ hD k
    rw [wrG]
    cases e : wrG x who at_ D k with
    | mk y o =>
      rw [e] at h1 h2
      cases o with
      | some f => exact ⟨h1, fun g hg => by obtain ⟨a, b⟩ := h2 g hg; exact ⟨by omega, b⟩⟩
      | none =>
        dsimp only
        split
        · exact ⟨wrDk_ok h1 _ _ ((hD.drop _).take _), fun g hg => by cases hg⟩
        · exact ⟨h1, fun g hg => by cases hg; exact ⟨by omega, ⟨k, rfl⟩⟩⟩
structure BlR where
  how : Nat
  m : Nat
  t : Nat
  fr : List Frm
  d : Nat
  x : Dk
def bkRd (pg : List Pl) (who at_ : Int) (room : Nat) (l : List Dsc) (x : Dk) (fr : List Frm) (d : Nat) : BlR :=
  if (room - 1) % 16 = 0 then (match rdG x who at_ ((room - 1) / 16) with
    | none => ⟨1, 0, 0, fr, d, x⟩
    | some all => ⟨0, (scK fr pg d l 0 all l.length).2.1, (scK fr pg d l 0 all l.length).2.1, (scK fr pg d l 0 all l.length).2.2.1, (scK fr pg d l 0 all l.length).2.2.2, x⟩)
  else ⟨1, 0, 0, fr, d, x⟩
def bkWr (who at_ : Int) (D : List Nat) (x : Dk) (fr : List Frm) (d : Nat) : BlR :=
  if D.length % 16 = 0 then (match wrG x who at_ D (D.length / 16) with
    | (y, some f) => ⟨1, f, 0, fr, d, y⟩
    | (y, none) => ⟨0, D.length, 0, fr, d, y⟩)
  else ⟨1, 0, 0, fr, d, x⟩
def bkDo (pg : List Pl) (who at_ : Int) (what room : Nat) (l : List Dsc) (D : List Nat) (x : Dk) (fr : List Frm) (d : Nat) : BlR :=
  if what = 0 then bkRd pg who at_ room l x fr d else if what = 1 then bkWr who at_ D x fr d else ⟨2, 0, 0, fr, d, x⟩
structure BlOk (fr : List Frm) (r : BlR) : Prop where
  frs : Frs r.fr
  len : r.fr.length = fr.length
  d : r.d < 4096
  x : DkOk r.x
  how : r.how ≤ 2
  m : r.m ≤ 512
  t : r.t ≤ 512
theorem rdG_len {x : Dk} (hx : DkOk x) {who at_ : Int} {k : Nat} {l : List Nat} (h : rdG x who at_ k = some l) : l.length ≤ 512 := by
  have h1 := (rdG_ok hx h).1
  rcases Nat.eq_zero_or_pos k with q | q
  · subst q; omega
  · obtain ⟨j, rfl⟩ : ∃ j, k = j + 1 := ⟨k - 1, by omega⟩
    have g0 : rdE x who at_ = 0 := by
      by_cases q0 : rdE x who at_ = 0
      · exact q0
      · exfalso
        have : rdG x who at_ 1 = none := by
          show (if rdE x who (at_ + ((0 : Nat) : Int)) = 0 then some ([] ++ secD x.ss (at_ + ((0 : Nat) : Int)).toNat) else none) = none
          rw [show at_ + ((0 : Nat) : Int) = at_ by omega, if_neg q0]
        rw [rdG_stop this (by omega)] at h; cases h
    have gj : rdE x who (at_ + j) = 0 := by
      rw [rdG] at h
      cases e : rdG x who at_ j with
      | none => rw [e] at h; cases h
      | some l0 =>
        rw [e] at h
        have h' : (if rdE x who (at_ + j) = 0 then some (l0 ++ secD x.ss (at_ + j).toNat) else none) = some l := h
        split at h'
        · assumption
        · cases h'
    have a := rdE_lt g0
    have b := rdE_lt gj
    omega
theorem bkDo_ok {pg : List Pl} {who at_ : Int} {what room : Nat} {l : List Dsc} {D : List Nat} {x : Dk} {fr : List Frm} {d : Nat} (hx : DkOk x) (hF : Frs fr) (hd : d < 4096) (hD : By D) (hn : D.length ≤ 512) : BlOk fr (bkDo pg who at_ what room l D x fr d) := by
  unfold bkDo; split
  · unfold bkRd; split
    · split
      · exact ⟨hF, rfl, hd, hx, by simp, by simp, by simp⟩
      · rename_i all e
        have h := scK_ok (pg := pg) (l := l) (from_ := 0) (bs := all) hF hd l.length
        have h1 := h.dn
        have h2 := rdG_len hx e
        exact ⟨h.frs, h.len, h.d, hx, by simp, by simp only; omega, by simp only; omega⟩
    · exact ⟨hF, rfl, hd, hx, by simp, by simp, by simp⟩
  · split
    · unfold bkWr; split
      · obtain ⟨h1, h2⟩ := wrG_ok hx who at_ hD (D.length / 16)
        split
        · rename_i y f e
          rw [e] at h1 h2
          have := (h2 f rfl).1
          exact ⟨hF, rfl, hd, h1, by simp, by simp only; omega, by simp⟩
        · rename_i y e
          rw [e] at h1
          exact ⟨hF, rfl, hd, h1, by simp, hn, by simp⟩
      · exact ⟨hF, rfl, hd, hx, by simp, by simp, by simp⟩
    · exact ⟨hF, rfl, hd, hx, by simp, by simp, by simp⟩
theorem bkWhole_spec (W0 : World) (R : List HP) (n : Nat) : Spec Tryz.prog W0 248 [.int .i64 n] R (fun v B => v = .bool (decide (n % 16 = 0)) ∧ B = R) := by
  refine spec_body Tryz.func248 Tryz.ntmps248 rfl rfl ?_
  refine x_seq (x_region (s_val rfl (v_assign rfl) (x_nil (n_then (x_seq (x_region (s_val rfl (v_move rfl) ?_)))))))
  refine s_val rfl (v_rem rfl rfl (by decide) (tmodN n 16)) ?_
  refine s_val rfl (v_eql rfl rfl) (s_val rfl (v_assign rfl) (x_nil (n_then (x_ret (x_done (.inl rfl) (.cons (r_tmp rfl) .nil) ?_)))))
  refine ⟨_, ⟨?_, rfl⟩, inferInstance⟩
  refine congrArg Value.bool ?_
  rw [Bool.eq_iff_iff, beq_iff_eq, decide_eq_true_iff]; omega
@[reducible] def blqO (pv d : Nat) (aL : Option Addr) (nL cL : Nat) (who : Int) (what : Nat) (at_ : Nat) (aD : Option Addr) (nD cD room : Nat) : Obj := cob [.pointer (some ⟨pv, 0, none⟩), .pointer (some ⟨d, 0, none⟩), .slice aL nL cL, .int .i64 who, .int .u32 what, .int .i64 at_, .slice aD nD cD, .int .i64 room] 305
abbrev ouV (a b c : Nat) : List Value := [.int .i64 a, .int .i64 b, .int .i64 c]
theorem bkRead_spec (W0 : World) (R : List HP) (rq pv dd ps pm d c cD nD room : Nat) (a aD : Option Addr) (fr : List Frm) (pg : List Pl) (h : Pgs pg) (hF : Frs fr) (hd : d < 4096) (l : List Dsc) (hl : ∀ y ∈ l, y.ok) (hn : l.length ≤ 9) (x : Dk) (hx : DkOk x) (who : Int) (at_ : Nat) (hat : at_ < 4294967296) (hr : 1 ≤ room ∧ room ≤ 38654705664) :
    Spec Tryz.prog W0 213 [.pointer (some ⟨rq, 0, none⟩)] (pt rq (blqO pv dd a l.length c who 0 at_ aD nD cD room) :: osl 139 4 (.slice a l.length c) (l.flatMap dsV) :: dkH dd x :: vwW pv ps pm d fr pg R)
      (fun v B => v = .agg (ouV (bkRd pg who at_ room l x fr d).how (bkRd pg who at_ room l x fr d).m (bkRd pg who at_ room l x fr d).t).toArray ∧ B = pt rq (blqO pv dd a l.length c who 0 at_ aD nD cD room) :: osl 139 4 (.slice a l.length c) (l.flatMap dsV) :: dkH dd (bkRd pg who at_ room l x fr d).x :: vwW pv ps pm (bkRd pg who at_ room l x fr d).d (bkRd pg who at_ room l x fr d).fr pg R) := by
  refine spec_body Tryz.func213 Tryz.ntmps213 rfl rfl ?_
  refine x_seq (x_region (s_do rfl (d_allocA Tryz.zeroValue255) ?_))
  rintro _ _ ⟨bo, rfl, rfl⟩
  refine x_nil (n_then (x_seq (x_region (s_val rfl (v_move rfl) (s_val rfl (v_nilCheck rfl) ?_)))))
  refine s_val rfl (v_fieldAddr rfl Tryz.underlying305 rfl Tryz.sizeOf3 rfl (by first | exact Nat.zero_add _ | rfl)) ?_
  refine s_val rfl (v_load Tryz.isAgg3 rfl (cell_own rfl)) ?_
  refine s_val rfl (v_sub rfl rfl (by rw [w64 (by omega)]; omega : IntKind.wrap .i64 ((room : Int) - 1) = ((room - 1 : Nat) : Int))) ?_
  refine s_val rfl (v_assign rfl) (x_nil (n_then (x_seq (x_seq (x_region (s_val rfl (v_move rfl) (s_do rfl (d_call Tryz.call248 rfl (bkWhole_spec W0 _ (room - 1))) ?_)))))))
  rintro _ B_ ⟨rfl, hB_⟩
  obtain rfl := hB_.symm
  refine s_val rfl (v_not rfl) (x_nil (n_then ?_))
  refine x_if rfl ?_ ?_
  · intro c2
    refine x_seq (x_region (s_val rfl (v_build Tryz.underlying255 Tryz.zeroValue255 (sized_cons Tryz.sizeOf3 (sized_cons Tryz.sizeOf3 (sized_cons Tryz.sizeOf3 sized_nil))) (fil_scal rfl Tryz.sizeOf3 rfl rfl (Nat.le_of_ble_eq_true rfl) SetL.eq fil_nil)) ?_))
    refine s_do0 (d_storeAll Tryz.sizeOf255 rfl rfl rfl rfl rfl) ?_
    rintro _ _ rfl
    refine x_nil (n_then (x_ret (r_then (x_done (.inl rfl) (.cons (r_all Tryz.isAgg255 Tryz.sizeOf255 rfl rfl) .nil) ?_))))
    have hw : ¬ (room - 1) % 16 = 0 := by simpa using c2
    have hB : bkRd pg who at_ room l x fr d = ⟨1, 0, 0, fr, d, x⟩ := by rw [bkRd, if_neg hw]
    rw [hB]
    exact ⟨_, ⟨rfl, rfl⟩, inferInstance⟩
  · intro c2
    refine x_skip (n_then (x_seq ?_))
    have hw : (room - 1) % 16 = 0 := by simpa using c2
    refine x_region (s_val rfl (v_assign rfl) (x_nil (n_then (x_seq (x_seq (x_region (s_val rfl (v_move rfl) ?_)))))))
    refine s_val rfl (v_quo rfl rfl (by decide) ((congrArg (IntKind.wrap .i64) (tdivN (room - 1) 16)).trans (w64 (by omega)))) ?_
    refine s_val rfl (v_move rfl) (x_nil (n_then (x_block ?_)))
    refine x_loop (fun X : Nat × Option Addr × Nat × List Nat => X.1 ≤ (room - 1) / 16 ∧ rdG x who at_ X.1 = some X.2.2.2 ∧ X.2.2.2.length ≤ 512) (fun X => [(0, .pointer (some ⟨rq, 0, none⟩)), (2, .pointer (some ⟨bo, 0, none⟩)), (4, .slice X.2.1 X.2.2.2.length X.2.2.1), (19, .int .i64 ((room - 1) / 16 : Nat)), (20, .int .i64 X.1)]) (fun X => osl 5 1 (.slice X.2.1 X.2.2.2.length X.2.2.1) (byV X.2.2.2) :: pt bo (cob (ouV 0 0 0) 255) :: pt rq (blqO pv dd a l.length c who 0 at_ aD nD cD room) :: osl 139 4 (.slice a l.length c) (l.flatMap dsV) :: dkH dd x :: vwW pv ps pm d fr pg R) (fun X => (room - 1) / 16 - X.1) (0, none, 0, []) ?_ ?_ ?_ ?_
    · exact ⟨Nat.zero_le _, rfl, Nat.zero_le _⟩
    · repeat (first | exact sub_nil | refine sub_cons rfl ?_)
    · exact ent_osl_nil
    · intro ⟨i, a0, c0, all⟩ ⟨hi, hall, hlen⟩
      dsimp only at hi hall hlen ⊢
      obtain ⟨hl16, hby⟩ := rdG_ok hx hall
      refine x_seq (x_region (s_val rfl (v_lss rfl rfl) (x_nil (n_then (x_seq ?_)))))
      refine x_if rfl ?_ ?_
      · intro c6
        refine x_skip (n_then (x_seq (x_block (x_seq (x_region (s_val rfl (v_move rfl) (s_val rfl (v_assign rfl) (x_nil (n_then (x_seq ?_))))))))))
        refine x_draw [(rq, 0, _)] 20 mixed rfl (sc_own sc_end) (fun hS => ?_)
        refine d_take 0 rfl rfl (by kernel_rfl) (by kernel_rfl) (by kernel_rfl) rfl hS (v_move rfl) ?_
        refine d_take 1 rfl rfl (by kernel_rfl) (by kernel_rfl) (by kernel_rfl) rfl hS (v_nilCheck rfl) ?_
        refine d_take 2 rfl rfl (by kernel_rfl) (by kernel_rfl) (by kernel_rfl) rfl hS (v_fieldAddr rfl Tryz.underlying305 rfl Tryz.sizeOf57 rfl (by first | exact Nat.zero_add _ | rfl)) ?_
        refine d_take 3 rfl rfl (by kernel_rfl) (by kernel_rfl) (by kernel_rfl) rfl hS (v_load Tryz.isAgg57 rfl (cell_sc0 (k := 0) rfl rfl)) ?_
        refine d_take 4 rfl rfl (by kernel_rfl) (by kernel_rfl) (by kernel_rfl) rfl hS (v_move rfl) ?_
        refine d_take 5 rfl rfl (by kernel_rfl) (by kernel_rfl) (by kernel_rfl) rfl hS (v_nilCheck rfl) ?_
        refine d_take 6 rfl rfl (by kernel_rfl) (by kernel_rfl) (by kernel_rfl) rfl hS (v_fieldAddr rfl Tryz.underlying305 rfl Tryz.sizeOf3 rfl (by first | exact Nat.zero_add _ | rfl)) ?_
        refine d_take 7 rfl rfl (by kernel_rfl) (by kernel_rfl) (by kernel_rfl) rfl hS (v_load Tryz.isAgg3 rfl (cell_sc0 (k := 0) rfl rfl)) ?_
        refine d_take 8 rfl rfl (by kernel_rfl) (by kernel_rfl) (by kernel_rfl) rfl hS (v_move rfl) ?_
        refine d_take 9 rfl rfl (by kernel_rfl) (by kernel_rfl) (by kernel_rfl) rfl hS (v_nilCheck rfl) ?_
        refine d_take 10 rfl rfl (by kernel_rfl) (by kernel_rfl) (by kernel_rfl) rfl hS (v_fieldAddr rfl Tryz.underlying305 rfl Tryz.sizeOf3 rfl (by first | exact Nat.zero_add _ | rfl)) ?_
        refine d_take 11 rfl rfl (by kernel_rfl) (by kernel_rfl) (by kernel_rfl) rfl hS (v_load Tryz.isAgg3 rfl (cell_sc0 (k := 0) rfl rfl)) ?_
        refine d_take 12 rfl rfl (by kernel_rfl) (by kernel_rfl) (by kernel_rfl) rfl hS (v_move rfl) ?_
        refine d_take 13 rfl rfl (by kernel_rfl) (by kernel_rfl) (by kernel_rfl) rfl hS (v_add rfl rfl (w64 (by omega))) ?_
        refine d_one 14 (by kernel_rfl) rfl rfl (d_call1 Tryz.call249 rfl (dkRead_spec W0 _ dd x hx who ((at_ : Int) + (i : Int)))) rfl ?_; clear hS
        rintro _ B_ ⟨a2, n2, c2', rfl, hn2, hB_⟩
        obtain rfl := hB_.symm
        subst hn2
        refine ⟨(sc_own sc_end), fun hS => ?_⟩
        refine d_take 15 rfl rfl (by kernel_rfl) (by kernel_rfl) (by kernel_rfl) rfl hS (v_move rfl) ?_
        refine d_take 16 rfl rfl (by kernel_rfl) (by kernel_rfl) (by kernel_rfl) rfl hS (v_extract rfl rfl) ?_
        refine d_take 17 rfl rfl (by kernel_rfl) (by kernel_rfl) (by kernel_rfl) rfl hS (v_extract rfl rfl) ?_
        refine d_take 18 rfl rfl (by kernel_rfl) (by kernel_rfl) (by kernel_rfl) rfl hS (v_assign rfl) ?_
        refine d_take 19 rfl rfl (by kernel_rfl) (by kernel_rfl) (by kernel_rfl) rfl hS (v_assign rfl) ?_
        refine d_done (by kernel_rfl) ?_; clear hS
        refine n_then (x_seq (x_seq (x_region (s_val rfl (v_move rfl) (s_val rfl (v_neq rfl rfl) (x_nil (n_then ?_)))))))
        refine x_if rfl ?_ ?_
        · intro c9
          refine x_seq (x_region (s_val rfl (v_build Tryz.underlying255 Tryz.zeroValue255 (sized_cons Tryz.sizeOf3 (sized_cons Tryz.sizeOf3 (sized_cons Tryz.sizeOf3 sized_nil))) (fil_scal rfl Tryz.sizeOf3 rfl rfl (Nat.le_of_ble_eq_true rfl) SetL.eq fil_nil)) ?_))
          refine s_do0 (d_storeAll Tryz.sizeOf255 rfl rfl rfl rfl rfl) ?_
          rintro _ _ rfl
          refine x_nil (n_then (x_ret (r_then (r_block (r_then (r_then (r_block (r_then (x_done (.inl rfl) (.cons (r_all Tryz.isAgg255 Tryz.sizeOf255 rfl rfl) .nil) ?_)))))))))
          have hq : ¬ rdE x who (at_ + i) = 0 := by first | exact c9 | simpa using c9
          have hs : rdG x who at_ (i + 1) = none := by
            rw [rdG, hall]; exact if_neg hq
          have hB : bkRd pg who at_ room l x fr d = ⟨1, 0, 0, fr, d, x⟩ := by rw [bkRd, if_pos hw, rdG_stop hs (by omega)]
          rw [hB]
          exact ⟨_, ⟨rfl, rfl⟩, inferInstance⟩
        · intro c9
          refine x_skip (n_then ?_)
          have hq : rdE x who (at_ + i) = 0 := by first | exact Decidable.not_not.1 c9 | simpa using c9
          have hlt := rdE_lt hq
          have hs : rdG x who at_ (i + 1) = some (all ++ secD x.ss ((at_ : Int) + (i : Int)).toNat) := by
            rw [rdG, hall]; exact if_pos hq
          have hsl := rdG_len hx hs
          rw [List.length_append] at hsl
          obtain ⟨s1, s2⟩ := hx.sec ((at_ : Int) + (i : Int)).toNat
          rw [hq]
          simp only [if_true]
          refine run_where (E := 5) (sz := 1) (vi := .slice a2 (secD x.ss ((at_ : Int) + (i : Int)).toNat).length c2') (ys := byV (secD x.ss ((at_ : Int) + (i : Int)).toNat)) (byV_ne (by omega)) (fun g n3 c3 e3 _ => ?_)
          cases e3
          refine x_region (s_val rfl (v_move rfl) (s_val rfl (v_move rfl) ?_))
          refine s_do rfl (d_append (sz := 1) (by_ := 1) (info := Tryz.t5) Tryz.underlying44 (by kernel_rfl) rfl rfl rfl rfl (by decide) rfl rfl (cells_osl (E := 5) (sz := 1) (a := some ⟨g, 0, none⟩) (c := c2') (n := (secD x.ss ((at_ : Int) + (i : Int)).toNat).length)) (by rw [byV_len, Nat.mul_one]) (byV_one _) (by simp only [maxLen]; omega) (by omega)) ?_
          rintro _ _ ⟨a4, c4', rfl, rfl⟩
          rw [← byV_append, ← List.length_append]
          refine s_val rfl (v_assign rfl) (x_nil (n_block (n_then (x_region ?_))))
          refine s_val rfl (v_add rfl rfl (by first | exact w64 (by omega) | rfl)) ?_
          refine s_val rfl (v_move rfl) (x_nil (n_then ?_))
          refine inv_intro (i + 1, a4, c4', all ++ secD x.ss ((at_ : Int) + (i : Int)).toNat) ?_ ?_ ?_ ?_
          · exact ⟨by omega, hs, by rw [List.length_append]; exact hsl⟩
          · omega
          · repeat (first | exact sub_nil | refine sub_cons rfl ?_)
          · exact inferInstance
      · intro c6
        refine x_exit (e_then (e_then (e_block (n_then (x_seq ?_)))))
        obtain rfl : i = (room - 1) / 16 := by omega
        have hB : bkRd pg who at_ room l x fr d = ⟨0, (scK fr pg d l 0 all l.length).2.1, (scK fr pg d l 0 all l.length).2.1, (scK fr pg d l 0 all l.length).2.2.1, (scK fr pg d l 0 all l.length).2.2.2, x⟩ := by rw [bkRd, if_pos hw, hall]
        rw [hB]
        refine run_form (E := 5) (sz := 1) (a := a0) (c := c0) (n := all.length) (ys := byV all) (fun hf2 => ?_)
        refine run_cap (E := 5) (sz := 1) (a := a0) (c := c0) (n := all.length) (fun hcap => ?_)
        refine run_form (E := 139) (sz := 4) (a := a) (c := c) (n := l.length) (ys := l.flatMap dsV) (fun hf1 => ?_)
        refine x_draw [(rq, 0, _)] 11 mixed rfl (sc_own sc_end) (fun hS => ?_)
        refine d_take 0 rfl rfl (by kernel_rfl) (by kernel_rfl) (by kernel_rfl) rfl hS (v_move rfl) ?_
        refine d_take 1 rfl rfl (by kernel_rfl) (by kernel_rfl) (by kernel_rfl) rfl hS (v_nilCheck rfl) ?_
        refine d_take 2 rfl rfl (by kernel_rfl) (by kernel_rfl) (by kernel_rfl) rfl hS (v_fieldAddr rfl Tryz.underlying305 rfl Tryz.sizeOf51 rfl (by first | exact Nat.zero_add _ | rfl)) ?_
        refine d_take 3 rfl rfl (by kernel_rfl) (by kernel_rfl) (by kernel_rfl) rfl hS (v_load Tryz.isAgg51 rfl (cell_sc0 (k := 0) rfl rfl)) ?_
        refine d_take 4 rfl rfl (by kernel_rfl) (by kernel_rfl) (by kernel_rfl) rfl hS (v_move rfl) ?_
        refine d_take 5 rfl rfl (by kernel_rfl) (by kernel_rfl) (by kernel_rfl) rfl hS (v_nilCheck rfl) ?_
        refine d_take 6 rfl rfl (by kernel_rfl) (by kernel_rfl) (by kernel_rfl) rfl hS (v_fieldAddr rfl Tryz.underlying305 rfl Tryz.sizeOf43 rfl (by first | exact Nat.zero_add _ | rfl)) ?_
        refine d_take 7 rfl rfl (by kernel_rfl) (by kernel_rfl) (by kernel_rfl) rfl hS (v_load Tryz.isAgg43 rfl (cell_sc0 (k := 0) rfl rfl)) ?_
        refine d_take 8 rfl rfl (by kernel_rfl) (by kernel_rfl) (by kernel_rfl) rfl hS (v_move rfl) ?_
        refine d_one 9 (by kernel_rfl) rfl rfl (d_call3 Tryz.call216 rfl (chScatter_spec W0 _ pv ps pm d c c0 a a0 fr pg h hF hd l (sla_cells hf1 (cells_osl (E := 139) (sz := 4) (a := a) (n := l.length) (c := c)) (fun _ => rfl) rfl (by decide)) hl (by omega) 0 (by decide) all hby (sla_cells hf2 (cells_osl (E := 5) (sz := 1) (a := a0) (n := all.length) (c := c0)) (fun _ => rfl) (byV_fm all).symm (by decide)) (by omega) hcap.1)) rfl ?_; clear hS
        rintro _ B_ ⟨rfl, hB_⟩
        obtain rfl := hB_.symm
        refine ⟨(sc_own sc_end), fun hS => ?_⟩
        refine d_take 10 rfl rfl (by kernel_rfl) (by kernel_rfl) (by kernel_rfl) rfl hS (v_assign rfl) ?_
        refine d_done (by kernel_rfl) ?_; clear hS
        refine n_then (x_seq (x_region (s_val rfl (v_move rfl) (s_val rfl (v_move rfl) (s_val rfl (v_build Tryz.underlying255 Tryz.zeroValue255 (sized_cons Tryz.sizeOf3 (sized_cons Tryz.sizeOf3 (sized_cons Tryz.sizeOf3 sized_nil))) (fil_scal rfl Tryz.sizeOf3 rfl rfl (Nat.le_of_ble_eq_true rfl) SetL.eq (fil_scal rfl Tryz.sizeOf3 rfl rfl (Nat.le_of_ble_eq_true rfl) SetL.eq (fil_scal rfl Tryz.sizeOf3 rfl rfl (Nat.le_of_ble_eq_true rfl) SetL.eq fil_nil)))) ?_)))))
        refine s_do0 (d_storeAll Tryz.sizeOf255 rfl rfl rfl rfl rfl) ?_
        rintro _ _ rfl
        refine x_nil (n_then (x_ret (x_done (.inl rfl) (.cons (r_all Tryz.isAgg255 Tryz.sizeOf255 rfl rfl) .nil) ?_)))
        exact ⟨_, ⟨rfl, rfl⟩, inferInstance⟩
end Go.Proofs.YtncegikenkpcmaaGreat
namespace Go.Proofs.YtncegikenkpcmaaGreat
open Go.RowKit
set_option linter.unusedSimpArgs false
set_option linter.unusedVariables false
set_option maxRecDepth 20000
theorem bkWrite_spec (W0 : World) (R : List HP) (rq pv dd c cD room : Nat) (a aD : Option Addr) (nL what : Nat) (x : Dk) (hx : DkOk x) (who : Int) (at_ : Nat) (hat : at_ < 4294967296) (D : List Nat) (hD : By D) (hn : D.length ≤ 512) (hcD : D.length ≤ cD ∧ cD ≤ maxLen) (pg : List Pl) (l : List Dsc) (fr : List Frm) (d : Nat) (hs : SlA (OwnP W0 R) aD 1 (fun x => [bV x]) D) :
    Spec Tryz.prog W0 214 [.pointer (some ⟨rq, 0, none⟩)] (pt rq (blqO pv dd a nL c who what at_ aD D.length cD room) :: dkH dd x :: R)
      (fun v B => v = .agg (ouV (bkWr who at_ D x fr d).how (bkWr who at_ D x fr d).m (bkWr who at_ D x fr d).t).toArray ∧ B = pt rq (blqO pv dd a nL c who what at_ aD D.length cD room) :: dkH dd (bkWr who at_ D x fr d).x :: R) := by
  refine spec_body Tryz.func214 Tryz.ntmps214 rfl rfl ?_
  refine x_seq (x_region (s_do rfl (d_allocA Tryz.zeroValue255) ?_))
  rintro _ _ ⟨bo, rfl, rfl⟩
  refine x_nil (n_then (x_seq (x_seq (x_region (s_val rfl (v_move rfl) (s_val rfl (v_nilCheck rfl) ?_))))))
  refine s_val rfl (v_fieldAddr rfl Tryz.underlying305 rfl Tryz.sizeOf44 rfl (by first | exact Nat.zero_add _ | rfl)) ?_
  refine s_val rfl (v_load Tryz.isAgg44 rfl (cell_own rfl)) ?_
  refine s_val rfl (v_len_slice Tryz.underlying44 rfl) (s_do rfl (d_call Tryz.call248 rfl (bkWhole_spec W0 _ D.length)) ?_)
  rintro _ B_ ⟨rfl, hB_⟩
  obtain rfl := hB_.symm
  refine s_val rfl (v_not rfl) (x_nil (n_then ?_))
  refine x_if rfl ?_ ?_
  · intro c1
    refine x_seq (x_region (s_val rfl (v_build Tryz.underlying255 Tryz.zeroValue255 (sized_cons Tryz.sizeOf3 (sized_cons Tryz.sizeOf3 (sized_cons Tryz.sizeOf3 sized_nil))) (fil_scal rfl Tryz.sizeOf3 rfl rfl (Nat.le_of_ble_eq_true rfl) SetL.eq fil_nil)) ?_))
    refine s_do0 (d_storeAll Tryz.sizeOf255 rfl rfl rfl rfl rfl) ?_
    rintro _ _ rfl
    refine x_nil (n_then (x_ret (r_then (x_done (.inl rfl) (.cons (r_all Tryz.isAgg255 Tryz.sizeOf255 rfl rfl) .nil) ?_))))
    have hw : ¬ D.length % 16 = 0 := by simpa using c1
    have hB : bkWr who at_ D x fr d = ⟨1, 0, 0, fr, d, x⟩ := by rw [bkWr, if_neg hw]
    rw [hB]
    exact ⟨_, ⟨rfl, rfl⟩, inferInstance⟩
  · intro c1
    refine x_skip (n_then (x_seq (x_seq ?_)))
    have hw : D.length % 16 = 0 := by simpa using c1
    refine x_region (s_val rfl (v_move rfl) (s_val rfl (v_nilCheck rfl) ?_))
    refine s_val rfl (v_fieldAddr rfl Tryz.underlying305 rfl Tryz.sizeOf44 rfl (by first | exact Nat.zero_add _ | rfl)) ?_
    refine s_val rfl (v_load Tryz.isAgg44 rfl (cell_own rfl)) ?_
    refine s_val rfl (v_len_slice Tryz.underlying44 rfl) ?_
    refine s_val rfl (v_quo rfl rfl (by decide) ((congrArg (IntKind.wrap .i64) (tdivN D.length 16)).trans (w64 (by omega)))) ?_
    refine s_val rfl (v_move rfl) (x_nil (n_then (x_block ?_)))
    refine x_loop (fun i : Nat => i ≤ D.length / 16 ∧ (wrG x who at_ D i).2 = none) (fun i => [(0, .pointer (some ⟨rq, 0, none⟩)), (2, .pointer (some ⟨bo, 0, none⟩)), (18, .int .i64 (D.length / 16 : Nat)), (19, .int .i64 i)]) (fun i => pt bo (cob (ouV 0 0 0) 255) :: pt rq (blqO pv dd a nL c who what at_ aD D.length cD room) :: dkH dd (wrG x who at_ D i).1 :: R) (fun i => D.length / 16 - i) 0 ?_ ?_ ?_ ?_
    · exact ⟨Nat.zero_le _, rfl⟩
    · repeat (first | exact sub_nil | refine sub_cons rfl ?_)
    · show Ent _ (pt bo (cob (ouV 0 0 0) 255) :: pt rq (blqO pv dd a nL c who what at_ aD D.length cD room) :: dkH dd x :: R)
      exact inferInstance
    · intro i ⟨hi, hno⟩
      obtain ⟨y, hy⟩ : ∃ y, (wrG x who at_ D i).1 = y := ⟨_, rfl⟩
      have hwi : wrG x who at_ D i = (y, none) := by rw [← hy, ← hno]
      have hyk : DkOk y := by rw [← hy]; exact (wrG_ok hx who at_ hD i).1
      rw [hy]
      refine x_seq (x_region (s_val rfl (v_lss rfl rfl) (x_nil (n_then (x_seq ?_)))))
      refine x_if rfl ?_ ?_
      · intro c4
        refine x_skip (n_then (x_seq (x_block (x_seq ?_))))
        have hi1 : i < D.length / 16 := by omega
        obtain ⟨E, hE⟩ : ∃ E, (D.drop (16 * i)).take 16 = E := ⟨_, rfl⟩
        have hEl : E.length = 16 := by rw [← hE, List.length_take, List.length_drop]; omega
        have hEb : By E := by rw [← hE]; exact (hD.drop _).take _
        have hEs : SlA (OwnP W0 R) (sliA aD cD (16 * i) 1) 1 (fun x => [bV x]) E := by rw [← hE]; exact hs.sub (by omega) hcD.1
        have hnx : wrG x who at_ D (i + 1) = if wrDE y who (at_ + i) 16 = 0 then (wrDk y who (at_ + i) E, none) else (y, some (16 * i)) := by
          rw [wrG, hwi]; dsimp only; rw [hE, hEl]
        refine x_region (s_val rfl (v_move rfl) (s_val rfl (v_assign rfl) (x_nil (n_then (x_seq (x_region (s_val rfl (v_move rfl) ?_)))))))
        refine s_val rfl (v_mul rfl rfl (by rw [w64 (by omega)]; omega : IntKind.wrap .i64 ((i : Int) * 16) = ((16 * i : Nat) : Int))) ?_
        refine s_val rfl (v_assign rfl) (x_nil (n_then (x_seq ?_)))
        refine x_draw [(rq, 0, _)] 24 mixed rfl (sc_own sc_end) (fun hS => ?_)
        refine d_take 0 rfl rfl (by kernel_rfl) (by kernel_rfl) (by kernel_rfl) rfl hS (v_move rfl) ?_
        refine d_take 1 rfl rfl (by kernel_rfl) (by kernel_rfl) (by kernel_rfl) rfl hS (v_nilCheck rfl) ?_
        refine d_take 2 rfl rfl (by kernel_rfl) (by kernel_rfl) (by kernel_rfl) rfl hS (v_fieldAddr rfl Tryz.underlying305 rfl Tryz.sizeOf57 rfl (by first | exact Nat.zero_add _ | rfl)) ?_
        refine d_take 3 rfl rfl (by kernel_rfl) (by kernel_rfl) (by kernel_rfl) rfl hS (v_load Tryz.isAgg57 rfl (cell_sc0 (k := 0) rfl rfl)) ?_
        refine d_take 4 rfl rfl (by kernel_rfl) (by kernel_rfl) (by kernel_rfl) rfl hS (v_move rfl) ?_
        refine d_take 5 rfl rfl (by kernel_rfl) (by kernel_rfl) (by kernel_rfl) rfl hS (v_nilCheck rfl) ?_
        refine d_take 6 rfl rfl (by kernel_rfl) (by kernel_rfl) (by kernel_rfl) rfl hS (v_fieldAddr rfl Tryz.underlying305 rfl Tryz.sizeOf3 rfl (by first | exact Nat.zero_add _ | rfl)) ?_
        refine d_take 7 rfl rfl (by kernel_rfl) (by kernel_rfl) (by kernel_rfl) rfl hS (v_load Tryz.isAgg3 rfl (cell_sc0 (k := 0) rfl rfl)) ?_
        refine d_take 8 rfl rfl (by kernel_rfl) (by kernel_rfl) (by kernel_rfl) rfl hS (v_move rfl) ?_
        refine d_take 9 rfl rfl (by kernel_rfl) (by kernel_rfl) (by kernel_rfl) rfl hS (v_nilCheck rfl) ?_
        refine d_take 10 rfl rfl (by kernel_rfl) (by kernel_rfl) (by kernel_rfl) rfl hS (v_fieldAddr rfl Tryz.underlying305 rfl Tryz.sizeOf3 rfl (by first | exact Nat.zero_add _ | rfl)) ?_
        refine d_take 11 rfl rfl (by kernel_rfl) (by kernel_rfl) (by kernel_rfl) rfl hS (v_load Tryz.isAgg3 rfl (cell_sc0 (k := 0) rfl rfl)) ?_
        refine d_take 12 rfl rfl (by kernel_rfl) (by kernel_rfl) (by kernel_rfl) rfl hS (v_move rfl) ?_
        refine d_take 13 rfl rfl (by kernel_rfl) (by kernel_rfl) (by kernel_rfl) rfl hS (v_add rfl rfl (w64 (by omega))) ?_
        refine d_take 14 rfl rfl (by kernel_rfl) (by kernel_rfl) (by kernel_rfl) rfl hS (v_move rfl) ?_
        refine d_take 15 rfl rfl (by kernel_rfl) (by kernel_rfl) (by kernel_rfl) rfl hS (v_nilCheck rfl) ?_
        refine d_take 16 rfl rfl (by kernel_rfl) (by kernel_rfl) (by kernel_rfl) rfl hS (v_fieldAddr rfl Tryz.underlying305 rfl Tryz.sizeOf44 rfl (by first | exact Nat.zero_add _ | rfl)) ?_
        refine d_take 17 rfl rfl (by kernel_rfl) (by kernel_rfl) (by kernel_rfl) rfl hS (v_load Tryz.isAgg44 rfl (cell_sc0 (k := 0) rfl rfl)) ?_
        refine d_take 18 rfl rfl (by kernel_rfl) (by kernel_rfl) (by kernel_rfl) rfl hS (v_move rfl) ?_
        refine d_take 19 rfl rfl (by kernel_rfl) (by kernel_rfl) (by kernel_rfl) rfl hS (v_move rfl) ?_
        refine d_take 20 rfl rfl (by kernel_rfl) (by kernel_rfl) (by kernel_rfl) rfl hS (v_add rfl rfl (by rw [w64 (by omega)]; omega : IntKind.wrap .i64 (((16 * i : Nat) : Int) + 16) = ((16 * i + 16 : Nat) : Int))) ?_
        refine d_take 21 rfl rfl (by kernel_rfl) (by kernel_rfl) (by kernel_rfl) rfl hS (v_sliceLHg Tryz.underlying44 Tryz.sizeOf5 rfl (i := 16 * i) (h := 16 * i + 16) rfl rfl rfl rfl (by omega) (by omega)) ?_
        rw [show 16 * i + 16 - 16 * i = E.length by omega]
        refine d_one 22 (by kernel_rfl) rfl rfl (d_call1 Tryz.call250 rfl (dkWrite_spec W0 _ dd y hyk who ((at_ : Int) + (i : Int)) (sliA aD cD (16 * i) 1) (cD - 16 * i) E hEb (by omega) hEs.weak)) rfl ?_; clear hS
        rintro _ B_ ⟨rfl, hB_⟩
        obtain rfl := hB_.symm
        rw [hEl]
        refine ⟨(sc_own sc_end), fun hS => ?_⟩
        refine d_take 23 rfl rfl (by kernel_rfl) (by kernel_rfl) (by kernel_rfl) rfl hS (v_neq rfl rfl) ?_
        refine d_done (by kernel_rfl) ?_; clear hS
        refine n_then ?_
        refine x_if rfl ?_ ?_
        · intro c7
          refine x_seq (x_region (s_val rfl (v_move rfl) (s_val rfl (v_build Tryz.underlying255 Tryz.zeroValue255 (sized_cons Tryz.sizeOf3 (sized_cons Tryz.sizeOf3 (sized_cons Tryz.sizeOf3 sized_nil))) (fil_scal rfl Tryz.sizeOf3 rfl rfl (Nat.le_of_ble_eq_true rfl) SetL.eq (fil_scal rfl Tryz.sizeOf3 rfl rfl (Nat.le_of_ble_eq_true rfl) SetL.eq fil_nil))) ?_)))
          refine s_do0 (d_storeAll Tryz.sizeOf255 rfl rfl rfl rfl rfl) ?_
          rintro _ _ rfl
          refine x_nil (n_then (x_ret (r_block (r_then (r_then (r_block (r_then (x_done (.inl rfl) (.cons (r_all Tryz.isAgg255 Tryz.sizeOf255 rfl rfl) .nil) ?_))))))))
          have hq : ¬ wrDE y who (at_ + i) 16 = 0 := by first | exact c7 | simpa using c7
          rw [if_neg hq] at hnx
          have hB : bkWr who at_ D x fr d = ⟨1, 16 * i, 0, fr, d, y⟩ := by rw [bkWr, if_pos hw, wrG_stop hnx (by omega)]
          have hWD : wrDk y who (at_ + i) E = y := by rw [wrDk, hEl, if_neg hq]
          rw [hB, hWD]
          exact ⟨_, ⟨rfl, rfl⟩, inferInstance⟩
        · intro c7
          refine x_skip (n_block (n_then ?_))
          have hq : wrDE y who (at_ + i) 16 = 0 := by first | exact Decidable.not_not.1 c7 | simpa using c7
          rw [if_pos hq] at hnx
          have hn1 : (wrG x who at_ D (i + 1)).1 = wrDk y who (at_ + i) E := by rw [hnx]
          rw [← hn1]
          refine x_region ?_
          refine s_val rfl (v_add rfl rfl (by first | exact w64 (by omega) | rfl)) ?_
          refine s_val rfl (v_move rfl) (x_nil (n_then ?_))
          refine inv_intro (i + 1) ?_ ?_ ?_ ?_
          · exact ⟨by omega, by rw [hnx]⟩
          · omega
          · repeat (first | exact sub_nil | refine sub_cons rfl ?_)
          · exact inferInstance
      · intro c4
        refine x_exit (e_then (e_then (e_block (n_then (x_seq ?_)))))
        obtain rfl : i = D.length / 16 := by omega
        have hB : bkWr who at_ D x fr d = ⟨0, D.length, 0, fr, d, y⟩ := by rw [bkWr, if_pos hw, hwi]
        rw [hB]
        refine x_region (s_val rfl (v_move rfl) (s_val rfl (v_nilCheck rfl) ?_))
        refine s_val rfl (v_fieldAddr rfl Tryz.underlying305 rfl Tryz.sizeOf44 rfl (by first | exact Nat.zero_add _ | rfl)) ?_
        refine s_val rfl (v_load Tryz.isAgg44 rfl (cell_own rfl)) ?_
        refine s_val rfl (v_len_slice Tryz.underlying44 rfl) (s_val rfl (v_build Tryz.underlying255 Tryz.zeroValue255 (sized_cons Tryz.sizeOf3 (sized_cons Tryz.sizeOf3 (sized_cons Tryz.sizeOf3 sized_nil))) (fil_scal rfl Tryz.sizeOf3 rfl rfl (Nat.le_of_ble_eq_true rfl) SetL.eq (fil_scal rfl Tryz.sizeOf3 rfl rfl (Nat.le_of_ble_eq_true rfl) SetL.eq fil_nil))) ?_)
        refine s_do0 (d_storeAll Tryz.sizeOf255 rfl rfl rfl rfl rfl) ?_
        rintro _ _ rfl
        refine x_nil (n_then (x_ret (x_done (.inl rfl) (.cons (r_all Tryz.isAgg255 Tryz.sizeOf255 rfl rfl) .nil) ?_)))
        exact ⟨_, ⟨rfl, rfl⟩, inferInstance⟩
theorem bkOther_spec (W0 : World) (R : List HP) (p : Value) : Spec Tryz.prog W0 215 [p] R (fun v B => v = .agg (ouV 2 0 0).toArray ∧ B = R) := by
  refine spec_body Tryz.func215 Tryz.ntmps215 rfl rfl ?_
  refine x_seq (x_region (s_do rfl (d_allocA Tryz.zeroValue255) ?_))
  rintro _ _ ⟨b1, rfl, rfl⟩
  refine x_nil (n_then (x_seq (x_region (s_val rfl (v_build Tryz.underlying255 Tryz.zeroValue255 (sized_cons Tryz.sizeOf3 (sized_cons Tryz.sizeOf3 (sized_cons Tryz.sizeOf3 sized_nil))) (fil_scal rfl Tryz.sizeOf3 rfl rfl (Nat.le_of_ble_eq_true rfl) SetL.eq fil_nil)) ?_))))
  refine s_do0 (d_storeAll Tryz.sizeOf255 rfl rfl rfl rfl rfl) ?_
  rintro _ _ rfl
  refine x_nil (n_then (x_ret (x_done (.inl rfl) (.cons (r_all Tryz.isAgg255 Tryz.sizeOf255 rfl rfl) .nil) ?_)))
  exact ⟨_, ⟨rfl, rfl⟩, inferInstance⟩
def doF (what : Nat) : FuncId := if what = 0 then 213 else if what = 1 then 214 else 215
theorem doF_call (what : Nat) : ∀ args w, (callFunc (doF what) args).run Tryz.prog w = .ok (.enter (doF what) args) w := by
  unfold doF; split
  · exact Tryz.call213
  · split
    · exact Tryz.call214
    · exact Tryz.call215
theorem bkDoing_spec (W0 : World) (R : List HP) (rq pv dd nL c nD cD room what : Nat) (a aD : Option Addr) (who : Int) (at_ : Nat) :
    Spec Tryz.prog W0 154 [.pointer (some ⟨rq, 0, none⟩)] (pt rq (blqO pv dd a nL c who what at_ aD nD cD room) :: R)
      (fun v B => v = .func (.func (doF what)) #[.pointer (some ⟨rq, 0, none⟩)] #[] ∧ B = pt rq (blqO pv dd a nL c who what at_ aD nD cD room) :: R) := by
  refine spec_body Tryz.func154 Tryz.ntmps154 rfl rfl ?_
  refine x_seq (x_region (s_val rfl (v_assign rfl) (x_nil (n_then (x_seq (x_seq (x_region (s_val rfl (v_move rfl) (s_val rfl (v_nilCheck rfl) ?_)))))))))
  refine s_val rfl (v_fieldAddr rfl Tryz.underlying305 rfl Tryz.sizeOf47 rfl (by first | exact Nat.zero_add _ | rfl)) ?_
  refine s_val rfl (v_load Tryz.isAgg47 rfl (cell_own rfl)) ?_
  refine x_nil (n_then (x_block (x_seq (x_region (s_val rfl (v_eql rfl rfl) (s_val rfl (v_assign rfl) (x_nil (n_then ?_))))))))
  refine x_if rfl ?_ ?_
  · intro c2
    refine x_seq (x_region (s_val rfl (v_move rfl) (s_val rfl (v_mkFunc rfl rfl) ?_)))
    refine s_val rfl (v_assign rfl) (x_nil (n_then (x_ret (r_block (r_then (x_done (.inl rfl) (.cons (r_tmp rfl) .nil) ?_))))))
    have h0 : what = 0 := by omega
    rw [doF, if_pos h0]; exact ⟨_, ⟨rfl, rfl⟩, inferInstance⟩
  · intro c2
    refine x_seq (x_region (s_val rfl (v_eql rfl rfl) (s_val rfl (v_assign rfl) (x_nil (n_then ?_)))))
    refine x_if rfl ?_ ?_
    · intro c4
      refine x_seq (x_region (s_val rfl (v_move rfl) (s_val rfl (v_mkFunc rfl rfl) ?_)))
      refine s_val rfl (v_assign rfl) (x_nil (n_then (x_ret (r_block (r_then (x_done (.inl rfl) (.cons (r_tmp rfl) .nil) ?_))))))
      have h0 : ¬ what = 0 := by omega
      have h1 : what = 1 := by omega
      rw [doF, if_neg h0, if_pos h1]; exact ⟨_, ⟨rfl, rfl⟩, inferInstance⟩
    · intro c4
      refine x_skip (n_block (n_then (x_seq (x_region (s_val rfl (v_move rfl) (s_val rfl (v_mkFunc rfl rfl) ?_))))))
      refine s_val rfl (v_assign rfl) (x_nil (n_then (x_ret (x_done (.inl rfl) (.cons (r_tmp rfl) .nil) ?_))))
      have h0 : ¬ what = 0 := by omega
      have h1 : ¬ what = 1 := by omega
      rw [doF, if_neg h0, if_neg h1]; exact ⟨_, ⟨rfl, rfl⟩, inferInstance⟩
theorem bkDo_spec (W0 : World) (R : List HP) (rq pv dd ps pm d c cb room what : Nat) (a ab : Option Addr) (fr : List Frm) (pg : List Pl) (h : Pgs pg) (hF : Frs fr) (hd : d < 4096) (l : List Dsc) (hl : ∀ y ∈ l, y.ok) (hn : l.length ≤ 9) (x : Dk) (hx : DkOk x) (who : Int) (at_ : Nat) (hat : at_ < 4294967296) (hr : 1 ≤ room ∧ room ≤ 38654705664)
    (G : List Nat) (hG : By G) (hg : 8 ≤ G.length ∧ G.length ≤ 512) (hcb : G.length ≤ cb ∧ cb ≤ maxLen) (hf : Frm0 ab (byV G)) (r : BlR) (hrr : bkDo pg who at_ what room l (G.drop 8) x fr d = r) :
    Spec Tryz.prog W0 (doF what) ([.pointer (some ⟨rq, 0, none⟩)] ++ [] ++ []) (pt rq (blqO pv dd a l.length c who what at_ (sliA ab cb 8 1) (G.length - 8) (cb - 8) room) :: osl 5 1 (.slice ab G.length cb) (byV G) :: osl 139 4 (.slice a l.length c) (l.flatMap dsV) :: dkH dd x :: vwW pv ps pm d fr pg R)
      (fun v B => v = .agg (ouV r.how r.m r.t).toArray ∧ B = pt rq (blqO pv dd a l.length c who what at_ (sliA ab cb 8 1) (G.length - 8) (cb - 8) room) :: osl 5 1 (.slice ab G.length cb) (byV G) :: osl 139 4 (.slice a l.length c) (l.flatMap dsV) :: dkH dd r.x :: vwW pv ps pm r.d r.fr pg R) := by
  subst hrr
  have hDl : (G.drop 8).length = G.length - 8 := List.length_drop ..
  unfold doF bkDo
  by_cases h0 : what = 0
  · subst h0
    rw [if_pos rfl, if_pos rfl]
    refine spec_ent (B := pt rq (blqO pv dd a l.length c who 0 at_ (sliA ab cb 8 1) (G.length - 8) (cb - 8) room) :: osl 139 4 (.slice a l.length c) (l.flatMap dsV) :: dkH dd x :: vwW pv ps pm d fr pg (osl 5 1 (.slice ab G.length cb) (byV G) :: R)) inferInstance ?_
    refine spec_post (bkRead_spec W0 _ rq pv dd ps pm d c (cb - 8) (G.length - 8) room a (sliA ab cb 8 1) fr pg h hF hd l hl hn x hx who at_ hat hr) fun v B hB => ?_
    obtain ⟨rfl, rfl⟩ := hB
    exact ⟨_, ⟨rfl, rfl⟩, inferInstance⟩
  · rw [if_neg h0, if_neg h0]
    by_cases h1 : what = 1
    · subst h1
      rw [if_pos rfl, if_pos rfl]
      obtain ⟨D, hD⟩ : ∃ D, G.drop 8 = D := ⟨_, rfl⟩
      have hDb : By D := by rw [← hD]; exact hG.drop 8
      have hs : SlA (OwnP W0 (osl 5 1 (.slice ab G.length cb) (byV G) :: osl 139 4 (.slice a l.length c) (l.flatMap dsV) :: vwW pv ps pm d fr pg R)) (sliA ab cb 8 1) 1 (fun x => [bV x]) D := by
        rw [← hD]
        exact sla_tail (sla_cells hf (cells_osl (E := 5) (sz := 1) (a := ab) (n := G.length) (c := cb)) (fun _ => rfl) (byV_fm G).symm (by decide)) hcb.1 (by omega)
      rw [hD] at hDl ⊢
      rw [← hDl]
      refine spec_ent (B := pt rq (blqO pv dd a l.length c who 1 at_ (sliA ab cb 8 1) D.length (cb - 8) room) :: dkH dd x :: osl 5 1 (.slice ab G.length cb) (byV G) :: osl 139 4 (.slice a l.length c) (l.flatMap dsV) :: vwW pv ps pm d fr pg R) inferInstance ?_
      refine spec_post (bkWrite_spec W0 _ rq pv dd c (cb - 8) room a (sliA ab cb 8 1) l.length 1 x hx who at_ hat D hDb (by omega) ⟨by omega, by omega⟩ pg l fr d hs) fun v B hB => ?_
      obtain ⟨rfl, rfl⟩ := hB
      have e1 : (bkWr who at_ D x fr d).fr = fr := by unfold bkWr; split <;> (try split) <;> rfl
      have e2 : (bkWr who at_ D x fr d).d = d := by unfold bkWr; split <;> (try split) <;> rfl
      rw [e1, e2]
      exact ⟨_, ⟨rfl, rfl⟩, inferInstance⟩
    · rw [if_neg h1, if_neg h1]
      exact bkOther_spec W0 _ _
theorem bkEnd_spec (W0 : World) (R : List HP) (rq pv dd ps pm d c cD nD room what : Nat) (a aD : Option Addr) (fr : List Frm) (pg : List Pl) (h : Pgs pg) (hF : Frs fr) (hd : d < 4096) (l : List Dsc) (hl : ∀ y ∈ l, y.ok) (hn : l.length ≤ 9) (who : Int) (at_ : Nat) (hr : 1 ≤ room ∧ room ≤ 38654705664) (how m t : Nat) (hh : how ≤ 2) :
    Spec Tryz.prog W0 155 [.pointer (some ⟨rq, 0, none⟩), .agg (ouV how m t).toArray] (osl 139 4 (.slice a l.length c) (l.flatMap dsV) :: pt rq (blqO pv dd a l.length c who what at_ aD nD cD room) :: vwW pv ps pm d fr pg R)
      (fun v B => v = .tuple #[] ∧ B = osl 139 4 (.slice a l.length c) (l.flatMap dsV) :: pt rq (blqO pv dd a l.length c who what at_ aD nD cD room) :: vwW pv ps pm (scK fr pg d l ((room - 1 : Nat) : Int) [how] l.length).2.2.2 (scK fr pg d l ((room - 1 : Nat) : Int) [how] l.length).2.2.1 pg R) := by
  refine spec_body Tryz.func155 Tryz.ntmps155 rfl rfl ?_
  refine x_seq (x_region (s_do rfl (d_boxA rfl) ?_))
  rintro _ _ ⟨bo, rfl, rfl⟩
  refine x_nil (n_then ?_)
  refine run_form (E := 139) (sz := 4) (a := a) (c := c) (n := l.length) (ys := l.flatMap dsV) (fun hf1 => ?_)
  refine x_draw [(rq, 0, _), (bo, 0, _)] 18 mixed rfl (sc_own (sc_own sc_end)) (fun hS => ?_)
  refine d_take 0 rfl rfl (by kernel_rfl) (by kernel_rfl) (by kernel_rfl) rfl hS (v_move rfl) ?_
  refine d_take 1 rfl rfl (by kernel_rfl) (by kernel_rfl) (by kernel_rfl) rfl hS (v_nilCheck rfl) ?_
  refine d_take 2 rfl rfl (by kernel_rfl) (by kernel_rfl) (by kernel_rfl) rfl hS (v_fieldAddr rfl Tryz.underlying305 rfl Tryz.sizeOf51 rfl (by first | exact Nat.zero_add _ | rfl)) ?_
  refine d_take 3 rfl rfl (by kernel_rfl) (by kernel_rfl) (by kernel_rfl) rfl hS (v_load Tryz.isAgg51 rfl (by first | exact cell_sc0 (k := 0) rfl rfl | exact cell_sc0 (k := 1) rfl rfl)) ?_
  refine d_take 4 rfl rfl (by kernel_rfl) (by kernel_rfl) (by kernel_rfl) rfl hS (v_move rfl) ?_
  refine d_take 5 rfl rfl (by kernel_rfl) (by kernel_rfl) (by kernel_rfl) rfl hS (v_nilCheck rfl) ?_
  refine d_take 6 rfl rfl (by kernel_rfl) (by kernel_rfl) (by kernel_rfl) rfl hS (v_fieldAddr rfl Tryz.underlying305 rfl Tryz.sizeOf43 rfl (by first | exact Nat.zero_add _ | rfl)) ?_
  refine d_take 7 rfl rfl (by kernel_rfl) (by kernel_rfl) (by kernel_rfl) rfl hS (v_load Tryz.isAgg43 rfl (by first | exact cell_sc0 (k := 0) rfl rfl | exact cell_sc0 (k := 1) rfl rfl)) ?_
  refine d_take 8 rfl rfl (by kernel_rfl) (by kernel_rfl) (by kernel_rfl) rfl hS (v_move rfl) ?_
  refine d_take 9 rfl rfl (by kernel_rfl) (by kernel_rfl) (by kernel_rfl) rfl hS (v_nilCheck rfl) ?_
  refine d_take 10 rfl rfl (by kernel_rfl) (by kernel_rfl) (by kernel_rfl) rfl hS (v_fieldAddr rfl Tryz.underlying305 rfl Tryz.sizeOf3 rfl (by first | exact Nat.zero_add _ | rfl)) ?_
  refine d_take 11 rfl rfl (by kernel_rfl) (by kernel_rfl) (by kernel_rfl) rfl hS (v_load Tryz.isAgg3 rfl (by first | exact cell_sc0 (k := 0) rfl rfl | exact cell_sc0 (k := 1) rfl rfl)) ?_
  refine d_take 12 rfl rfl (by kernel_rfl) (by kernel_rfl) (by kernel_rfl) rfl hS (v_sub rfl rfl (by rw [w64 (by omega)]; omega : IntKind.wrap .i64 ((room : Int) - 1) = ((room - 1 : Nat) : Int))) ?_
  refine d_take 13 rfl rfl (by kernel_rfl) (by kernel_rfl) (by kernel_rfl) rfl hS (v_fieldAddr rfl Tryz.underlying255 rfl Tryz.sizeOf3 rfl (by first | exact Nat.zero_add _ | rfl)) ?_
  refine d_take 14 rfl rfl (by kernel_rfl) (by kernel_rfl) (by kernel_rfl) rfl hS (v_load Tryz.isAgg3 rfl (by first | exact cell_sc0 (k := 0) rfl rfl | exact cell_sc0 (k := 1) rfl rfl)) ?_
  refine d_take 15 rfl rfl (by kernel_rfl) (by kernel_rfl) (by kernel_rfl) rfl hS (v_conv Tryz.underlying3 Tryz.underlying5 rfl (w8u (by omega))) ?_
  refine d_one 16 (by kernel_rfl) rfl rfl (d_sliceLit Tryz.underlying44 Tryz.sizeOf5 Tryz.zeroValue5 rfl rfl rfl rfl rfl (by decide) (by decide)) rfl ?_; clear hS
  rintro _ _ ⟨bb, rfl, rfl⟩
  refine ⟨(sc_own (sc_own sc_end)), fun hS => ?_⟩
  refine d_one 17 (by kernel_rfl) rfl rfl (d_call3 Tryz.call216 rfl (chScatter_spec W0 _ pv ps pm d c 1 a (some ⟨bb, 0, none⟩) fr pg h hF hd l (sla_cells hf1 (cells_osl (E := 139) (sz := 4) (a := a) (n := l.length) (c := c)) (fun _ => rfl) rfl (by decide)) hl (by omega) ((room - 1 : Nat) : Int) (by omega) [how] (fun y hy => by simp at hy; omega) (sla_byV (cells_all (b := bb))) (by simp) (by simp))) rfl ?_; clear hS
  rintro _ B_ ⟨rfl, hB_⟩
  obtain rfl := hB_.symm
  refine ⟨(sc_own (sc_own sc_end)), fun hS => ?_⟩
  refine d_done (by kernel_rfl) ?_; clear hS
  refine x_done (.inr rfl) .nil ?_
  exact ⟨_, ⟨rfl, rfl⟩, inferInstance⟩
end Go.Proofs.YtncegikenkpcmaaGreat
