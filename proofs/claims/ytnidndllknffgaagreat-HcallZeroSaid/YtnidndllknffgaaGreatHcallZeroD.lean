/-
  Part 4 of the proof of HcallZero: rules, and walks of functions. Conditions: none.
-/
import Derived.Test.YtnidndllknffgaaGreatHcallZeroC
namespace Go.Proofs.YtnidndllknffgaaGreat
open Go.RowKit
set_option linter.unusedSimpArgs false
set_option linter.unusedVariables false
set_option maxRecDepth 20000
theorem shl1 {c : Nat} (h : c ≤ 8) : bShl .i64 1 (c : Int) = ((2 ^ c : Nat) : Int) := by
  have : c = 0 ∨ c = 1 ∨ c = 2 ∨ c = 3 ∨ c = 4 ∨ c = 5 ∨ c = 6 ∨ c = 7 ∨ c = 8 := by omega
  rcases this with rfl | rfl | rfl | rfl | rfl | rfl | rfl | rfl | rfl <;> rfl
theorem vaL_ref {l cats : Int} : vaL l cats = true ↔ 0 ≤ cats ∧ cats ≤ 8 ∧ 0 ≤ l ∧ l < ((2 ^ cats.toNat : Nat) : Int) := by
  simp only [vaL, Bool.and_eq_true, decide_eq_true_iff, isL_iff]
  constructor
  · rintro ⟨⟨⟨h1, h2⟩, h3, h4⟩, h5⟩
    refine ⟨h1, h2, h3, ?_⟩
    obtain ⟨c, rfl⟩ : ∃ c : Nat, cats = (c : Int) := ⟨cats.toNat, by omega⟩
    obtain ⟨x, rfl⟩ : ∃ x : Nat, l = (x : Int) := ⟨l.toNat, by omega⟩
    rw [bShr_nat (k := .i64) (a := x) (s := c) (by show c ≤ 64; omega)] at h5
    have h6 : x / 2 ^ c = 0 := by omega
    have := (Nat.div_eq_zero_iff_lt (Nat.two_pow_pos c)).1 h6
    rw [Int.toNat_natCast]; omega
  · rintro ⟨h1, h2, h3, h4⟩
    obtain ⟨c, rfl⟩ : ∃ c : Nat, cats = (c : Int) := ⟨cats.toNat, by omega⟩
    obtain ⟨x, rfl⟩ : ∃ x : Nat, l = (x : Int) := ⟨l.toNat, by omega⟩
    rw [Int.toNat_natCast] at h4
    have h5 : x < 2 ^ c := by omega
    have h6 : 2 ^ c ≤ 2 ^ 8 := Nat.pow_le_pow_right (by decide) (by omega)
    refine ⟨⟨⟨h1, h2⟩, h3, by omega⟩, ?_⟩
    rw [bShr_nat (k := .i64) (a := x) (s := c) (by show c ≤ 64; omega), Nat.div_eq_of_lt h5]; rfl
theorem rlValid_spec (W0 : World) (R : List HP) (l cats : Int) : Spec Tryz.prog W0 294 [.int .i64 l, .int .i64 cats] R (fun v B => v = .bool (vaL l cats) ∧ B = R) := by
  have hv := vaL_ref (l := l) (cats := cats)
  refine spec_body Tryz.func294 Tryz.ntmps294 rfl rfl ?_
  refine x_seq (x_region (s_val rfl (v_assign rfl) (x_nil (n_then (x_seq (x_region (s_val rfl (v_move rfl) (s_val rfl (v_geq rfl rfl) (s_val rfl (v_move rfl) ?_)))))))))
  refine s_and rfl rfl rfl ?_ ?_
  · intro g1_3
    refine s_val rfl (v_move rfl) (s_yes rfl rfl (s_val rfl (v_leq rfl rfl) (s_val rfl (v_pick_t rfl rfl) (s_val rfl (v_move rfl) ?_))))
    refine s_and rfl rfl rfl ?_ ?_
    · intro g1_7
      refine s_val rfl (v_move rfl) (s_yes rfl rfl (s_val rfl (v_geq rfl rfl) (s_val rfl (v_pick_t rfl rfl) (s_val rfl (v_move rfl) ?_))))
      refine s_and rfl rfl rfl ?_ ?_
      · intro g1_11
        obtain ⟨k, rfl⟩ : ∃ k : Nat, cats = (k : Int) := ⟨cats.toNat, by omega⟩
        have hp := Nat.two_pow_pos k
        rw [Int.toNat_natCast] at hv
        refine s_val rfl (v_move rfl) (s_yes rfl rfl (s_val rfl (v_move rfl) (s_yes rfl rfl ?_)))
        refine s_val rfl (v_shl rfl rfl (by omega) (shl1 (by omega))) ?_
        refine s_yes rfl rfl (s_val rfl (v_lss rfl rfl) (s_val rfl (v_pick_t rfl rfl) (s_val rfl (v_assign rfl) (x_nil (n_then (x_ret (x_done (.inl rfl) (.cons (r_tmp rfl) .nil) ?_)))))))
        refine ⟨_, ⟨?_, rfl⟩, inferInstance⟩
        refine congrArg Value.bool ?_
        rw [Bool.eq_iff_iff, hv]
        first
          | (rw [decide_eq_true_iff]; constructor
             · intro q; omega
             · intro q; omega)
          | (constructor
             · intro q; first | omega | (cases q)
             · intro q; omega)
      · intro g1_11
        refine s_no rfl rfl rfl rfl (s_no rfl rfl rfl rfl (s_no rfl rfl rfl rfl (s_val rfl (v_pick_f rfl rfl) (s_val rfl (v_assign rfl) (x_nil (n_then (x_ret (x_done (.inl rfl) (.cons (r_tmp rfl) .nil) ?_))))))))
        refine ⟨_, ⟨?_, rfl⟩, inferInstance⟩
        refine congrArg Value.bool ?_
        rw [Bool.eq_iff_iff, hv]
        first
          | (rw [decide_eq_true_iff]; constructor
             · intro q; omega
             · intro q; omega)
          | (constructor
             · intro q; first | omega | (cases q)
             · intro q; omega)
    · intro g1_7
      refine s_no rfl rfl rfl rfl (s_val rfl (v_pick_f rfl rfl) (s_val rfl (v_move rfl) (s_no rfl rfl rfl rfl (s_no rfl rfl rfl rfl (s_no rfl rfl rfl rfl (s_no rfl rfl rfl rfl (s_val rfl (v_pick_f rfl rfl) (s_val rfl (v_assign rfl) (x_nil (n_then (x_ret (x_done (.inl rfl) (.cons (r_tmp rfl) .nil) ?_))))))))))))
      refine ⟨_, ⟨?_, rfl⟩, inferInstance⟩
      refine congrArg Value.bool ?_
      rw [Bool.eq_iff_iff, hv]
      first
        | (rw [decide_eq_true_iff]; constructor
           · intro q; omega
           · intro q; omega)
        | (constructor
           · intro q; first | omega | (cases q)
           · intro q; omega)
  · intro g1_3
    refine s_no rfl rfl rfl rfl (s_val rfl (v_pick_f rfl rfl) (s_val rfl (v_move rfl) (s_no rfl rfl rfl rfl (s_no rfl rfl rfl rfl (s_val rfl (v_pick_f rfl rfl) (s_val rfl (v_move rfl) (s_no rfl rfl rfl rfl (s_no rfl rfl rfl rfl (s_no rfl rfl rfl rfl (s_no rfl rfl rfl rfl (s_val rfl (v_pick_f rfl rfl) (s_val rfl (v_assign rfl) (x_nil (n_then (x_ret (x_done (.inl rfl) (.cons (r_tmp rfl) .nil) ?_))))))))))))))))
    refine ⟨_, ⟨?_, rfl⟩, inferInstance⟩
    refine congrArg Value.bool ?_
    rw [Bool.eq_iff_iff, hv]
    first
      | (rw [decide_eq_true_iff]; constructor
         · intro q; omega
         · intro q; omega)
      | (constructor
         · intro q; first | omega | (cases q)
         · intro q; omega)
theorem rcIsG_spec (W0 : World) (R : List HP) (c : Cfg) (i : Int) : Spec Tryz.prog W0 190 [.agg (cfgV c).toArray, .int .i64 i] R (fun v B => v = .bool (isG c i) ∧ B = R) := by
  refine spec_body Tryz.func190 Tryz.ntmps190 rfl rfl ?_
  refine x_seq (x_region (s_do rfl (d_boxA rfl) ?_))
  rintro _ _ ⟨b2, rfl, rfl⟩
  refine s_val rfl (v_assign rfl) (x_nil (n_then (x_seq (x_region (s_val rfl (v_move rfl) (s_val rfl (v_geq rfl rfl) (s_val rfl (v_move rfl) ?_)))))))
  refine s_and rfl rfl rfl ?_ ?_
  · intro g1_3
    refine s_val rfl (v_move rfl) (s_yes rfl rfl ?_)
    refine s_val rfl (v_fieldAddr rfl Tryz.underlying29 rfl Tryz.sizeOf23 rfl (by first | exact Nat.zero_add _ | rfl)) ?_
    refine s_yes rfl rfl (s_val rfl (v_load Tryz.isAgg23 rfl (cell_own rfl)) ?_)
    refine s_yes rfl rfl (s_val rfl (v_len_slice Tryz.underlying23 rfl) (s_yes rfl rfl (s_val rfl (v_lss rfl rfl) (s_val rfl (v_pick_t rfl rfl) (s_val rfl (v_assign rfl) (x_nil (n_then (x_ret (x_done (.inl rfl) (.cons (r_tmp rfl) .nil) ?_)))))))))
    refine ⟨_, ⟨?_, rfl⟩, inferInstance⟩
    refine congrArg Value.bool ?_
    rw [Bool.eq_iff_iff, isG, decide_eq_true_iff]
    first
      | (rw [decide_eq_true_iff]; constructor
         · intro q; omega
         · intro q; omega)
      | (constructor
         · intro q; first | omega | (cases q)
         · intro q; omega)
  · intro g1_3
    refine s_no rfl rfl rfl rfl (s_no rfl rfl rfl rfl (s_no rfl rfl rfl rfl (s_no rfl rfl rfl rfl (s_val rfl (v_pick_f rfl rfl) (s_val rfl (v_assign rfl) (x_nil (n_then (x_ret (x_done (.inl rfl) (.cons (r_tmp rfl) .nil) ?_)))))))))
    refine ⟨_, ⟨?_, rfl⟩, inferInstance⟩
    refine congrArg Value.bool ?_
    rw [Bool.eq_iff_iff, isG, decide_eq_true_iff]
    first
      | (rw [decide_eq_true_iff]; constructor
         · intro q; omega
         · intro q; omega)
      | (constructor
         · intro q; first | omega | (cases q)
         · intro q; omega)
theorem any_next {w : Nat → Bool} {i : Nat} (h : ∀ j, j < i → w j = false) (h2 : w i = false) : ∀ j, j < i + 1 → w j = false := fun j hj => by
  rcases Nat.lt_or_ge j i with q | q
  · exact h j q
  · rw [show j = i by omega]; exact h2
theorem rcGuests_spec (W0 : World) (R : List HP) (c : Cfg) (h : CfOk W0 c) :
    Spec Tryz.prog W0 185 [.agg (cfgV c).toArray] R (fun v B => ∃ r, v = .tuple #[.bool (grW c), .int .i64 r] ∧ B = R) := by
  refine spec_body Tryz.func185 Tryz.ntmps185 rfl rfl ?_
  refine x_seq (x_region (s_do rfl (d_boxA rfl) ?_))
  rintro _ _ ⟨b1, rfl, rfl⟩
  refine s_val rfl (v_assign rfl) (s_val rfl (v_assign rfl) (x_nil (n_then (x_seq (x_seq (x_region ?_))))))
  refine s_val rfl (v_fieldAddr rfl Tryz.underlying29 rfl Tryz.sizeOf23 rfl (by first | exact Nat.zero_add _ | rfl)) ?_
  refine s_val rfl (v_load Tryz.isAgg23 rfl (cell_own rfl)) ?_
  refine s_val rfl (v_len_slice Tryz.underlying23 rfl) (s_val rfl (v_lss rfl rfl) (s_val rfl (v_move rfl) ?_))
  refine s_or rfl rfl rfl ?_ ?_
  · intro g1_5
    refine s_no rfl rfl rfl rfl (s_no rfl rfl rfl rfl (s_no rfl rfl rfl rfl (s_val rfl (v_pick_t rfl rfl) (x_nil (n_then (x_ift rfl (x_seq (x_region (s_val rfl (v_assign rfl) (s_val rfl (v_assign rfl) (x_nil (n_then (x_ret (r_then (x_done (.inl rfl) (.cons (r_tmp rfl) (.cons (r_tmp rfl) .nil)) ?_)))))))))))))))
    rw [grW, decide_eq_true (by omega), Bool.true_or]
    exact ⟨_, ⟨0, rfl, rfl⟩, inferInstance⟩
  · intro g1_5
    refine s_val rfl (v_fieldAddr rfl Tryz.underlying29 rfl Tryz.sizeOf23 rfl (by first | exact Nat.zero_add _ | rfl)) ?_
    refine s_yes rfl rfl (s_val rfl (v_load Tryz.isAgg23 rfl (cell_own rfl)) ?_)
    refine s_yes rfl rfl (s_val rfl (v_len_slice Tryz.underlying23 rfl) (s_yes rfl rfl (s_val rfl (v_gtr rfl rfl) (s_val rfl (v_pick_f rfl rfl) (x_nil (n_then ?_))))))
    refine x_if rfl ?_ ?_
    · intro c1
      refine x_seq (x_region (s_val rfl (v_assign rfl) (s_val rfl (v_assign rfl) (x_nil (n_then (x_ret (r_then (x_done (.inl rfl) (.cons (r_tmp rfl) (.cons (r_tmp rfl) .nil)) ?_))))))))
      rw [grW, decide_eq_true (by omega), Bool.true_or]
      exact ⟨_, ⟨0, rfl, rfl⟩, inferInstance⟩
    · intro c1
      refine x_skip (n_then (x_seq (x_seq (x_region (s_val rfl (v_assign rfl) (x_nil (n_then (x_block ?_))))))))
      refine x_loop (fun i : Nat => i ≤ c.gl.length ∧ (∀ j, j < i → gstW c.cats (c.gl.getD j (0, 0, 0)) = false)) (fun i => [(1, .pointer (some ⟨b1, 0, none⟩)), (4, .int .i64 i)]) (fun _ => pt b1 (cfO c) :: R) (fun i => c.gl.length - i) 0 ?_ ?_ ?_ ?_
      · exact ⟨Nat.zero_le _, fun j hj => absurd hj (Nat.not_lt_zero _)⟩
      · repeat (first | exact sub_nil | refine sub_cons rfl ?_)
      · exact inferInstance
      · intro i ⟨hi, hI⟩
        refine x_seq (x_seq (x_region (s_val rfl (v_move rfl) ?_)))
        refine s_val rfl (v_fieldAddr rfl Tryz.underlying29 rfl Tryz.sizeOf23 rfl (by first | exact Nat.zero_add _ | rfl)) ?_
        refine s_val rfl (v_load Tryz.isAgg23 rfl (cell_own rfl)) ?_
        refine s_val rfl (v_len_slice Tryz.underlying23 rfl) (s_val rfl (v_lss rfl rfl) (x_nil (n_then ?_)))
        refine x_if rfl ?_ ?_
        · intro c4
          refine x_skip (n_then (x_seq (x_block (x_seq ?_))))
          have hi1 : i < c.gl.length := by omega
          obtain ⟨g, o, hga, hc⟩ := (h.g []).at_ hi1
          obtain ⟨x, hx⟩ : ∃ x, c.gl[i] = x := ⟨_, rfl⟩
          have hgd : c.gl.getD i (0, 0, 0) = x := by simp [List.getD, hi1, hx]
          rw [hx] at hc
          have hbad : gstW c.cats x = true → grW c = true := fun q => by
            rw [grW, anyW_yes (w := fun i => gstW c.cats (c.gl.getD i (0, 0, 0))) hi1 (by rw [hgd]; exact q), Bool.or_true]
          have hgood := fun q => any_next (w := fun i => gstW c.cats (c.gl.getD i (0, 0, 0))) hI (show gstW c.cats (c.gl.getD i (0, 0, 0)) = false by rw [hgd]; exact q)
          obtain ⟨v, hv⟩ : ∃ v, vaL x.1 c.cats = v := ⟨_, rfl⟩
          have hno := gstW_no (cats := c.cats) (g := x)
          have hye := gstW_yes (cats := c.cats) (g := x)
          rw [hv] at hno hye
          refine x_region ?_
          refine s_val rfl (v_fieldAddr rfl Tryz.underlying29 rfl Tryz.sizeOf23 rfl (by first | exact Nat.zero_add _ | rfl)) ?_
          refine s_val rfl (v_load Tryz.isAgg23 rfl (cell_own rfl)) ?_
          refine s_val rfl (v_move rfl) ?_
          refine s_val rfl (v_idxA Tryz.underlying23 Tryz.sizeOf85 rfl hga rfl rfl hi1 (by first | exact Nat.zero_add _ | rfl)) ?_
          refine s_val rfl (v_loadAgg Tryz.isAgg85 Tryz.sizeOf85 rfl hc.weak rfl) ?_
          refine s_do rfl (d_allocA Tryz.zeroValue85) ?_
          rintro _ _ ⟨bx, rfl, rfl⟩
          refine s_do0 (d_storeAll Tryz.sizeOf85 rfl rfl rfl rfl rfl) ?_
          rintro _ _ rfl
          refine x_nil (n_then (x_seq (x_region ?_)))
          refine s_val rfl (v_fieldAddr rfl Tryz.underlying85 rfl Tryz.sizeOf3 rfl (by first | exact Nat.zero_add _ | rfl)) ?_
          refine s_val rfl (v_load Tryz.isAgg3 rfl (cell_own rfl)) ?_
          refine s_val rfl (v_fieldAddr rfl Tryz.underlying29 rfl Tryz.sizeOf3 rfl (by first | exact Nat.zero_add _ | rfl)) ?_
          refine s_val rfl (v_load Tryz.isAgg3 rfl (cell_own rfl)) ?_
          refine s_do rfl (d_call Tryz.call294 rfl (rlValid_spec W0 _ x.1 c.cats)) ?_
          rintro _ B_ ⟨rfl, hB_⟩
          obtain rfl := hB_.symm
          rw [hv]
          refine s_val rfl (v_not rfl) (s_val rfl (v_move rfl) ?_)
          refine s_or rfl rfl rfl ?_ ?_
          · intro g7_7
            refine s_no rfl rfl rfl rfl (s_no rfl rfl rfl rfl (s_val rfl (v_pick_t rfl rfl) (s_val rfl (v_move rfl) (s_no rfl rfl rfl rfl (s_no rfl rfl rfl rfl (s_no rfl rfl rfl rfl (s_val rfl (v_pick_t rfl rfl) (s_val rfl (v_move rfl) (s_no rfl rfl rfl rfl (s_no rfl rfl rfl rfl (s_no rfl rfl rfl rfl (s_val rfl (v_pick_t rfl rfl) (s_val rfl (v_move rfl) (s_no rfl rfl rfl rfl (s_no rfl rfl rfl rfl (s_no rfl rfl rfl rfl (s_no rfl rfl rfl rfl (s_no rfl rfl rfl rfl (s_no rfl rfl rfl rfl (s_val rfl (v_pick_t rfl rfl) (x_nil (n_then (x_ift rfl ?_)))))))))))))))))))))))
            refine x_seq (x_region (s_val rfl (v_move rfl) (s_val rfl (v_assign rfl) (s_val rfl (v_assign rfl) (x_nil (n_then (x_ret (r_block (r_then (r_then (r_block (r_then (x_done (.inl rfl) (.cons (r_tmp rfl) (.cons (r_tmp rfl) .nil)) ?_)))))))))))))
            rw [hbad (hye (by first | (intro q; omega) | (intro q; simp_all)))]
            exact ⟨_, ⟨_, rfl, rfl⟩, inferInstance⟩
          · intro g7_7
            refine s_val rfl (v_fieldAddr rfl Tryz.underlying85 rfl Tryz.sizeOf3 rfl (by first | exact Nat.zero_add _ | rfl)) ?_
            refine s_yes rfl rfl (s_val rfl (v_load Tryz.isAgg3 rfl (cell_own rfl)) ?_)
            refine s_yes rfl rfl (s_val rfl (v_lss rfl rfl) (s_val rfl (v_pick_f rfl rfl) (s_val rfl (v_move rfl) ?_)))
            refine s_or rfl rfl rfl ?_ ?_
            · intro g7_12
              refine s_no rfl rfl rfl rfl (s_no rfl rfl rfl rfl (s_val rfl (v_pick_t rfl rfl) (s_val rfl (v_move rfl) (s_no rfl rfl rfl rfl (s_no rfl rfl rfl rfl (s_no rfl rfl rfl rfl (s_val rfl (v_pick_t rfl rfl) (s_val rfl (v_move rfl) (s_no rfl rfl rfl rfl (s_no rfl rfl rfl rfl (s_no rfl rfl rfl rfl (s_no rfl rfl rfl rfl (s_no rfl rfl rfl rfl (s_no rfl rfl rfl rfl (s_val rfl (v_pick_t rfl rfl) (x_nil (n_then (x_ift rfl (x_seq (x_region (s_val rfl (v_move rfl) (s_val rfl (v_assign rfl) (s_val rfl (v_assign rfl) ?_)))))))))))))))))))))))
              refine x_nil (n_then (x_ret (r_block (r_then (r_then (r_block (r_then (x_done (.inl rfl) (.cons (r_tmp rfl) (.cons (r_tmp rfl) .nil)) ?_))))))))
              rw [hbad (hye (by first | (intro q; omega) | (intro q; simp_all)))]
              exact ⟨_, ⟨_, rfl, rfl⟩, inferInstance⟩
            · intro g7_12
              refine s_val rfl (v_fieldAddr rfl Tryz.underlying85 rfl Tryz.sizeOf3 rfl (by first | exact Nat.zero_add _ | rfl)) ?_
              refine s_yes rfl rfl (s_val rfl (v_load Tryz.isAgg3 rfl (cell_own rfl)) ?_)
              refine s_yes rfl rfl (s_val rfl (v_gtr rfl rfl) (s_val rfl (v_pick_f rfl rfl) (s_val rfl (v_move rfl) ?_)))
              refine s_or rfl rfl rfl ?_ ?_
              · intro g7_17
                refine s_no rfl rfl rfl rfl (s_no rfl rfl rfl rfl (s_val rfl (v_pick_t rfl rfl) (s_val rfl (v_move rfl) (s_no rfl rfl rfl rfl (s_no rfl rfl rfl rfl (s_no rfl rfl rfl rfl (s_no rfl rfl rfl rfl (s_no rfl rfl rfl rfl (s_no rfl rfl rfl rfl (s_val rfl (v_pick_t rfl rfl) (x_nil (n_then (x_ift rfl (x_seq (x_region (s_val rfl (v_move rfl) (s_val rfl (v_assign rfl) (s_val rfl (v_assign rfl) (x_nil (n_then (x_ret (r_block (r_then ?_)))))))))))))))))))))))
                refine r_then (r_block (r_then (x_done (.inl rfl) (.cons (r_tmp rfl) (.cons (r_tmp rfl) .nil)) ?_)))
                rw [hbad (hye (by first | (intro q; omega) | (intro q; simp_all)))]
                exact ⟨_, ⟨_, rfl, rfl⟩, inferInstance⟩
              · intro g7_17
                refine s_val rfl (v_fieldAddr rfl Tryz.underlying85 rfl Tryz.sizeOf3 rfl (by first | exact Nat.zero_add _ | rfl)) ?_
                refine s_yes rfl rfl (s_val rfl (v_load Tryz.isAgg3 rfl (cell_own rfl)) ?_)
                refine s_yes rfl rfl (s_val rfl (v_lss rfl rfl) (s_val rfl (v_pick_f rfl rfl) (s_val rfl (v_move rfl) ?_)))
                refine s_or rfl rfl rfl ?_ ?_
                · intro g7_22
                  refine s_no rfl rfl rfl rfl (s_no rfl rfl rfl rfl (s_no rfl rfl rfl rfl (s_no rfl rfl rfl rfl (s_no rfl rfl rfl rfl (s_val rfl (v_pick_t rfl rfl) (x_nil (n_then (x_ift rfl (x_seq (x_region (s_val rfl (v_move rfl) (s_val rfl (v_assign rfl) (s_val rfl (v_assign rfl) (x_nil (n_then (x_ret (r_block (r_then (r_then (r_block (r_then (x_done (.inl rfl) (.cons (r_tmp rfl) (.cons (r_tmp rfl) .nil)) ?_))))))))))))))))))))))
                  rw [hbad (hye (by first | (intro q; omega) | (intro q; simp_all)))]
                  exact ⟨_, ⟨_, rfl, rfl⟩, inferInstance⟩
                · intro g7_22
                  refine s_val rfl (v_fieldAddr rfl Tryz.underlying85 rfl Tryz.sizeOf3 rfl (by first | exact Nat.zero_add _ | rfl)) ?_
                  refine s_yes rfl rfl (s_val rfl (v_load Tryz.isAgg3 rfl (cell_own rfl)) ?_)
                  refine s_yes rfl rfl ?_
                  refine s_val rfl (v_fieldAddr rfl Tryz.underlying85 rfl Tryz.sizeOf3 rfl (by first | exact Nat.zero_add _ | rfl)) ?_
                  refine s_yes rfl rfl (s_val rfl (v_load Tryz.isAgg3 rfl (cell_own rfl)) ?_)
                  refine s_yes rfl rfl ?_
                  refine s_val rfl (v_sub rfl rfl (w64 (by omega))) ?_
                  refine s_yes rfl rfl (s_val rfl (v_gtr rfl rfl) (s_val rfl (v_pick_f rfl rfl) (x_nil (n_then ?_))))
                  refine x_if rfl ?_ ?_
                  · intro c7
                    refine x_seq (x_region (s_val rfl (v_move rfl) (s_val rfl (v_assign rfl) (s_val rfl (v_assign rfl) (x_nil (n_then (x_ret (r_block (r_then (r_then (r_block (r_then (x_done (.inl rfl) (.cons (r_tmp rfl) (.cons (r_tmp rfl) .nil)) ?_)))))))))))))
                    rw [hbad (hye (by first | (intro q; omega) | (intro q; simp_all)))]
                    exact ⟨_, ⟨_, rfl, rfl⟩, inferInstance⟩
                  · intro c7
                    refine x_skip (n_block (n_then (x_region (s_val rfl (v_move rfl) ?_))))
                    refine s_val rfl (v_add rfl rfl (by first | exact w64 (by omega) | rfl)) ?_
                    refine s_val rfl (v_assign rfl) (x_nil (n_then ?_))
                    refine inv_intro (i + 1) ?_ ?_ ?_ ?_
                    · refine ⟨by omega, hgood (hno.2 ⟨by simp_all, by omega, by omega, by omega, by omega⟩)⟩
                    · omega
                    · repeat (first | exact sub_nil | refine sub_cons rfl ?_)
                    · exact inferInstance
        · intro c4
          refine x_exit (e_then (e_then (e_block (n_then (x_seq (x_region (s_val rfl (v_assign rfl) (s_val rfl (v_assign rfl) (x_nil (n_then (x_ret (x_done (.inl rfl) (.cons (r_tmp rfl) (.cons (r_tmp rfl) .nil)) ?_))))))))))))
          obtain rfl : i = c.gl.length := by omega
          rw [grW, decide_eq_false (by omega), Bool.false_or, anyW_no hI]
          exact ⟨_, ⟨0, rfl, rfl⟩, inferInstance⟩
theorem rcRanges_spec (W0 : World) (R : List HP) (c : Cfg) (h : CfOk W0 c) :
    Spec Tryz.prog W0 186 [.agg (cfgV c).toArray] R (fun v B => ∃ r, v = .tuple #[.bool (raW c), .int .i64 r] ∧ B = R) := by
  refine spec_body Tryz.func186 Tryz.ntmps186 rfl rfl ?_
  refine x_seq (x_region (s_do rfl (d_boxA rfl) ?_))
  rintro _ _ ⟨b1, rfl, rfl⟩
  refine s_val rfl (v_assign rfl) (s_val rfl (v_assign rfl) (x_nil (n_then (x_seq (x_seq (x_region ?_))))))
  refine s_val rfl (v_fieldAddr rfl Tryz.underlying29 rfl Tryz.sizeOf24 rfl (by first | exact Nat.zero_add _ | rfl)) ?_
  refine s_val rfl (v_load Tryz.isAgg24 rfl (cell_own rfl)) ?_
  refine s_val rfl (v_len_slice Tryz.underlying24 rfl) (s_val rfl (v_gtr rfl rfl) (x_nil (n_then ?_)))
  refine x_if rfl ?_ ?_
  · intro c1
    refine x_seq (x_region (s_val rfl (v_assign rfl) (s_val rfl (v_assign rfl) (x_nil (n_then (x_ret (r_then (x_done (.inl rfl) (.cons (r_tmp rfl) (.cons (r_tmp rfl) .nil)) ?_))))))))
    rw [raW, decide_eq_true (by omega), Bool.true_or]
    exact ⟨_, ⟨0, rfl, rfl⟩, inferInstance⟩
  · intro c1
    refine x_skip (n_then (x_seq (x_region ?_)))
    refine s_do rfl (d_call Tryz.call194 rfl (rpNew_spec03 W0 _ 32 (by decide))) ?_
    rintro _ B_ ⟨bt, rfl, hB_⟩
    obtain rfl := hB_.symm
    refine s_val rfl (v_move rfl) (s_val rfl (v_extract rfl rfl) (s_val rfl (v_extract rfl rfl) (s_val rfl (v_assign rfl) (s_val rfl (v_assign rfl) (x_nil (n_then (x_seq (x_seq (x_region (s_val rfl (v_assign rfl) (x_nil (n_then (x_block ?_)))))))))))))
    refine x_loop (fun X : Nat × List Int => X.1 ≤ c.rl.length ∧ (∀ j, j < X.1 → rgW c j = false) ∧ X.2.length = 32 ∧ RT (rgT c X.1) X.2) (fun X => [(1, .pointer (some ⟨b1, 0, none⟩)), (4, .pointer (some ⟨bt, 0, none⟩)), (6, .int .i64 X.1)]) (fun X => rtbH bt X.2 :: pt b1 (cfO c) :: R) (fun X => c.rl.length - X.1) (0, List.replicate 32 (-1)) ?_ ?_ ?_ ?_
    · exact ⟨Nat.zero_le _, fun j hj => absurd hj (Nat.not_lt_zero _), rfl, rt_nil 32⟩
    · repeat (first | exact sub_nil | refine sub_cons rfl ?_)
    · exact inferInstance
    · intro ⟨i, L⟩ ⟨hi, hI, hL, hRT⟩
      dsimp only at hi hI hL hRT ⊢
      refine x_seq (x_seq (x_region (s_val rfl (v_move rfl) ?_)))
      refine s_val rfl (v_fieldAddr rfl Tryz.underlying29 rfl Tryz.sizeOf24 rfl (by first | exact Nat.zero_add _ | rfl)) ?_
      refine s_val rfl (v_load Tryz.isAgg24 rfl (cell_own rfl)) ?_
      refine s_val rfl (v_len_slice Tryz.underlying24 rfl) (s_val rfl (v_lss rfl rfl) (x_nil (n_then ?_)))
      refine x_if rfl ?_ ?_
      · intro c5
        refine x_skip (n_then (x_seq (x_block (x_seq ?_))))
        have hi1 : i < c.rl.length := by omega
        obtain ⟨g, o, hga, hc⟩ := (h.r []).at_ hi1
        obtain ⟨x, hx⟩ : ∃ x, c.rl[i] = x := ⟨_, rfl⟩
        have hA : rlA c i = x := by simp [rlA, List.getD, hi1, hx]
        rw [hx] at hc
        have hT : rgT c (i + 1) = if vaL x.1 c.cats = true then gvR (rgT c i) 32 x.2.1 x.2.2 i else rgT c i := by rw [rgT, hA]
        have hW : rgW c i = !(vaL x.1 c.cats && decide (gvE (rgT c i) 32 x.2.1 x.2.2 i = 0)) := by rw [rgW, hA]
        have hE := rt_e hRT (n := 32) (by rw [hL]; rfl) x.2.1 x.2.2 i
        have hS := rt_s hRT (n := 32) (by rw [hL]; rfl) (by decide) x.2.1 x.2.2 i
        rw [← hE] at hW
        have hbad : rgW c i = true → raW c = true := fun q => by rw [raW, anyW_yes hi1 q, Bool.or_true]
        obtain ⟨v, hv⟩ : ∃ v, vaL x.1 c.cats = v := ⟨_, rfl⟩
        rw [hv] at hT hW
        refine x_region ?_
        refine s_val rfl (v_fieldAddr rfl Tryz.underlying29 rfl Tryz.sizeOf24 rfl (by first | exact Nat.zero_add _ | rfl)) ?_
        refine s_val rfl (v_load Tryz.isAgg24 rfl (cell_own rfl)) ?_
        refine s_val rfl (v_move rfl) ?_
        refine s_val rfl (v_idxA Tryz.underlying24 Tryz.sizeOf144 rfl hga rfl rfl hi1 (by first | exact Nat.zero_add _ | rfl)) ?_
        refine s_val rfl (v_loadAgg Tryz.isAgg144 Tryz.sizeOf144 rfl hc.weak rfl) ?_
        refine s_do rfl (d_allocA Tryz.zeroValue144) ?_
        rintro _ _ ⟨bx, rfl, rfl⟩
        refine s_do0 (d_storeAll Tryz.sizeOf144 rfl rfl rfl rfl rfl) ?_
        rintro _ _ rfl
        refine x_nil (n_then (x_seq (x_region ?_)))
        refine s_val rfl (v_fieldAddr rfl Tryz.underlying144 rfl Tryz.sizeOf3 rfl (by first | exact Nat.zero_add _ | rfl)) ?_
        refine s_val rfl (v_load Tryz.isAgg3 rfl (cell_own rfl)) ?_
        refine s_val rfl (v_fieldAddr rfl Tryz.underlying29 rfl Tryz.sizeOf3 rfl (by first | exact Nat.zero_add _ | rfl)) ?_
        refine s_val rfl (v_load Tryz.isAgg3 rfl (cell_own rfl)) ?_
        refine s_do rfl (d_call Tryz.call294 rfl (rlValid_spec W0 _ x.1 c.cats)) ?_
        rintro _ B_ ⟨rfl, hB_⟩
        obtain rfl := hB_.symm
        rw [hv]
        refine s_val rfl (v_not rfl) (s_val rfl (v_move rfl) ?_)
        refine s_or rfl rfl rfl ?_ ?_
        · intro g8_7
          refine s_no rfl rfl rfl rfl (s_no rfl rfl rfl rfl (s_no rfl rfl rfl rfl (s_no rfl rfl rfl rfl (s_no rfl rfl rfl rfl (s_no rfl rfl rfl rfl (s_no rfl rfl rfl rfl (s_val rfl (v_pick_t rfl rfl) (x_nil (n_then (x_ift rfl (x_seq (x_region (s_val rfl (v_move rfl) (s_val rfl (v_assign rfl) (s_val rfl (v_assign rfl) (x_nil (n_then (x_ret (r_block (r_then (r_then (r_block (r_then ?_)))))))))))))))))))))))
          refine x_done (.inl rfl) (.cons (r_tmp rfl) (.cons (r_tmp rfl) .nil)) ?_
          rw [hbad (by rw [hW]; first | (simp_all; done) | (rw [decide_eq_false (by omega), Bool.and_false]; rfl))]
          exact ⟨_, ⟨_, rfl, rfl⟩, inferInstance⟩
        · intro g8_7
          refine s_val rfl (v_move rfl) (s_yes rfl rfl ?_)
          refine s_val rfl (v_fieldAddr rfl Tryz.underlying144 rfl Tryz.sizeOf3 rfl (by first | exact Nat.zero_add _ | rfl)) ?_
          refine s_yes rfl rfl (s_val rfl (v_load Tryz.isAgg3 rfl (cell_own rfl)) ?_)
          refine s_yes rfl rfl ?_
          refine s_val rfl (v_fieldAddr rfl Tryz.underlying144 rfl Tryz.sizeOf3 rfl (by first | exact Nat.zero_add _ | rfl)) ?_
          refine s_yes rfl rfl (s_val rfl (v_load Tryz.isAgg3 rfl (cell_own rfl)) ?_)
          refine s_yes rfl rfl (s_val rfl (v_move rfl) (s_yes rfl rfl ?_))
          refine s_do rfl (d_call1 Tryz.call196 rfl (rpGive_spec W0 _ bt L (by omega) x.2.1 x.2.2 i)) ?_
          rintro _ B_ ⟨rfl, hB_⟩
          obtain rfl := hB_.symm
          refine s_yes rfl rfl (s_val rfl (v_neq rfl rfl) (s_val rfl (v_pick_f rfl rfl) (x_nil (n_then ?_))))
          refine x_if rfl ?_ ?_
          · intro c8
            refine x_seq (x_region (s_val rfl (v_move rfl) (s_val rfl (v_assign rfl) (s_val rfl (v_assign rfl) (x_nil (n_then (x_ret (r_block (r_then (r_then (r_block (r_then (x_done (.inl rfl) (.cons (r_tmp rfl) (.cons (r_tmp rfl) .nil)) ?_)))))))))))))
            rw [hbad (by rw [hW]; first | (simp_all; done) | (rw [decide_eq_false (by omega), Bool.and_false]; rfl))]
            exact ⟨_, ⟨_, rfl, rfl⟩, inferInstance⟩
          · intro c8
            refine x_skip (n_block (n_then ?_))
            have hv1 : v = true := by first | assumption | simp_all
            have hz : rpE L x.2.1 x.2.2 i = 0 := by omega
            rw [hv1, if_pos rfl] at hT
            rw [hv1, hz] at hW
            refine x_region (s_val rfl (v_move rfl) ?_)
            refine s_val rfl (v_add rfl rfl (by first | exact w64 (by omega) | rfl)) ?_
            refine s_val rfl (v_assign rfl) (x_nil (n_then ?_))
            refine inv_intro (i + 1, rpS L x.2.1 x.2.2 i) ?_ ?_ ?_ ?_
            · exact ⟨by omega, any_next hI hW, rpS_len.trans hL, by rw [hT]; exact hS⟩
            · omega
            · repeat (first | exact sub_nil | refine sub_cons rfl ?_)
            · exact inferInstance
      · intro c5
        refine x_exit (e_then (e_then (e_block (n_then (x_seq (x_region (s_val rfl (v_assign rfl) (s_val rfl (v_assign rfl) (x_nil (n_then (x_ret (x_done (.inl rfl) (.cons (r_tmp rfl) (.cons (r_tmp rfl) .nil)) ?_))))))))))))
        obtain rfl : i = c.rl.length := by omega
        rw [raW, decide_eq_false (by omega), Bool.false_or, anyW_no hI]
        exact ⟨_, ⟨0, rfl, rfl⟩, inferInstance⟩
theorem rcSlots_spec (W0 : World) (R : List HP) (c : Cfg) (h : CfOk W0 c) :
    Spec Tryz.prog W0 189 [.agg (cfgV c).toArray] R (fun v B => ∃ r, v = .tuple #[.bool (slW c), .int .i64 r] ∧ B = R) := by
  refine spec_body Tryz.func189 Tryz.ntmps189 rfl rfl ?_
  refine x_seq (x_region (s_do rfl (d_boxA rfl) ?_))
  rintro _ _ ⟨b1, rfl, rfl⟩
  refine s_val rfl (v_assign rfl) (s_val rfl (v_assign rfl) (x_nil (n_then (x_seq (x_seq (x_region ?_))))))
  refine s_val rfl (v_fieldAddr rfl Tryz.underlying29 rfl Tryz.sizeOf27 rfl (by first | exact Nat.zero_add _ | rfl)) ?_
  refine s_val rfl (v_load Tryz.isAgg27 rfl (cell_own rfl)) ?_
  refine s_val rfl (v_len_slice Tryz.underlying27 rfl) (s_val rfl (v_lss rfl rfl) (s_val rfl (v_move rfl) ?_))
  refine s_or rfl rfl rfl ?_ ?_
  · intro g1_5
    refine s_no rfl rfl rfl rfl (s_no rfl rfl rfl rfl (s_no rfl rfl rfl rfl (s_val rfl (v_pick_t rfl rfl) (x_nil (n_then (x_ift rfl (x_seq (x_region (s_val rfl (v_assign rfl) (s_val rfl (v_assign rfl) (x_nil (n_then (x_ret (r_then (x_done (.inl rfl) (.cons (r_tmp rfl) (.cons (r_tmp rfl) .nil)) ?_)))))))))))))))
    rw [slW, decide_eq_true (by omega), Bool.true_or]
    exact ⟨_, ⟨0, rfl, rfl⟩, inferInstance⟩
  · intro g1_5
    refine s_val rfl (v_fieldAddr rfl Tryz.underlying29 rfl Tryz.sizeOf27 rfl (by first | exact Nat.zero_add _ | rfl)) ?_
    refine s_yes rfl rfl (s_val rfl (v_load Tryz.isAgg27 rfl (cell_own rfl)) ?_)
    refine s_yes rfl rfl (s_val rfl (v_len_slice Tryz.underlying27 rfl) (s_yes rfl rfl (s_val rfl (v_gtr rfl rfl) (s_val rfl (v_pick_f rfl rfl) (x_nil (n_then ?_))))))
    refine x_if rfl ?_ ?_
    · intro c1
      refine x_seq (x_region (s_val rfl (v_assign rfl) (s_val rfl (v_assign rfl) (x_nil (n_then (x_ret (r_then (x_done (.inl rfl) (.cons (r_tmp rfl) (.cons (r_tmp rfl) .nil)) ?_))))))))
      rw [slW, decide_eq_true (by omega), Bool.true_or]
      exact ⟨_, ⟨0, rfl, rfl⟩, inferInstance⟩
    · intro c1
      refine x_skip (n_then (x_seq (x_seq (x_region (s_val rfl (v_assign rfl) (x_nil (n_then (x_block ?_))))))))
      refine x_loop (fun i : Nat => i ≤ c.sl.length ∧ (∀ j, j < i → sltW c (c.sl.getD j (0, 0)) = false)) (fun i => [(1, .pointer (some ⟨b1, 0, none⟩)), (4, .int .i64 i)]) (fun _ => pt b1 (cfO c) :: R) (fun i => c.sl.length - i) 0 ?_ ?_ ?_ ?_
      · exact ⟨Nat.zero_le _, fun j hj => absurd hj (Nat.not_lt_zero _)⟩
      · repeat (first | exact sub_nil | refine sub_cons rfl ?_)
      · exact inferInstance
      · intro i ⟨hi, hI⟩
        refine x_seq (x_seq (x_region (s_val rfl (v_move rfl) ?_)))
        refine s_val rfl (v_fieldAddr rfl Tryz.underlying29 rfl Tryz.sizeOf27 rfl (by first | exact Nat.zero_add _ | rfl)) ?_
        refine s_val rfl (v_load Tryz.isAgg27 rfl (cell_own rfl)) ?_
        refine s_val rfl (v_len_slice Tryz.underlying27 rfl) (s_val rfl (v_lss rfl rfl) (x_nil (n_then ?_)))
        refine x_if rfl ?_ ?_
        · intro c4
          refine x_skip (n_then (x_seq (x_block (x_seq ?_))))
          have hi1 : i < c.sl.length := by omega
          obtain ⟨g, o, hga, hc⟩ := (h.s []).at_ hi1
          obtain ⟨x, hx⟩ : ∃ x, c.sl[i] = x := ⟨_, rfl⟩
          have hgd : c.sl.getD i (0, 0) = x := by simp [List.getD, hi1, hx]
          rw [hx] at hc
          have hbad : sltW c x = true → slW c = true := fun q => by
            rw [slW, anyW_yes (w := fun i => sltW c (c.sl.getD i (0, 0))) hi1 (by rw [hgd]; exact q), Bool.or_true]
          have hgood := fun q => any_next (w := fun i => sltW c (c.sl.getD i (0, 0))) hI (show sltW c (c.sl.getD i (0, 0)) = false by rw [hgd]; exact q)
          obtain ⟨v, hv⟩ : ∃ v, isG c x.1 = v := ⟨_, rfl⟩
          have hW : sltW c x = !(v && decide (1 ≤ x.2 ∧ x.2 ≤ 32)) := by rw [sltW, hv]
          refine x_region ?_
          refine s_val rfl (v_fieldAddr rfl Tryz.underlying29 rfl Tryz.sizeOf27 rfl (by first | exact Nat.zero_add _ | rfl)) ?_
          refine s_val rfl (v_load Tryz.isAgg27 rfl (cell_own rfl)) ?_
          refine s_val rfl (v_move rfl) ?_
          refine s_val rfl (v_idxA Tryz.underlying27 Tryz.sizeOf87 rfl hga rfl rfl hi1 (by first | exact Nat.zero_add _ | rfl)) ?_
          refine s_val rfl (v_loadAgg Tryz.isAgg87 Tryz.sizeOf87 rfl hc.weak rfl) ?_
          refine s_do rfl (d_allocA Tryz.zeroValue87) ?_
          rintro _ _ ⟨bx, rfl, rfl⟩
          refine s_do0 (d_storeAll Tryz.sizeOf87 rfl rfl rfl rfl rfl) ?_
          rintro _ _ rfl
          refine x_nil (n_then (x_seq (x_region (s_val rfl (v_loadAll Tryz.isAgg29 Tryz.sizeOf29 rfl rfl) ?_))))
          refine s_val rfl (v_fieldAddr rfl Tryz.underlying87 rfl Tryz.sizeOf3 rfl (by first | exact Nat.zero_add _ | rfl)) ?_
          refine s_val rfl (v_load Tryz.isAgg3 rfl (cell_own rfl)) ?_
          refine s_do rfl (d_call Tryz.call190 rfl (rcIsG_spec W0 _ c x.1)) ?_
          rintro _ B_ ⟨rfl, hB_⟩
          obtain rfl := hB_.symm
          rw [hv]
          refine s_val rfl (v_not rfl) (s_val rfl (v_move rfl) ?_)
          refine s_or rfl rfl rfl ?_ ?_
          · intro g7_6
            refine s_no rfl rfl rfl rfl (s_no rfl rfl rfl rfl (s_val rfl (v_pick_t rfl rfl) (s_val rfl (v_move rfl) (s_no rfl rfl rfl rfl (s_no rfl rfl rfl rfl (s_no rfl rfl rfl rfl (s_val rfl (v_pick_t rfl rfl) (x_nil (n_then (x_ift rfl (x_seq (x_region (s_val rfl (v_move rfl) (s_val rfl (v_assign rfl) (s_val rfl (v_assign rfl) (x_nil (n_then (x_ret (r_block (r_then (r_then (r_block (r_then ?_)))))))))))))))))))))))
            refine x_done (.inl rfl) (.cons (r_tmp rfl) (.cons (r_tmp rfl) .nil)) ?_
            rw [hbad (by rw [hW]; first | (rw [decide_eq_false (by omega), Bool.and_false]; rfl) | (simp_all; done))]
            exact ⟨_, ⟨_, rfl, rfl⟩, inferInstance⟩
          · intro g7_6
            refine s_val rfl (v_fieldAddr rfl Tryz.underlying87 rfl Tryz.sizeOf3 rfl (by first | exact Nat.zero_add _ | rfl)) ?_
            refine s_yes rfl rfl (s_val rfl (v_load Tryz.isAgg3 rfl (cell_own rfl)) ?_)
            refine s_yes rfl rfl (s_val rfl (v_lss rfl rfl) (s_val rfl (v_pick_f rfl rfl) (s_val rfl (v_move rfl) ?_)))
            refine s_or rfl rfl rfl ?_ ?_
            · intro g7_11
              refine s_no rfl rfl rfl rfl (s_no rfl rfl rfl rfl (s_val rfl (v_pick_t rfl rfl) (x_nil (n_then (x_ift rfl (x_seq (x_region (s_val rfl (v_move rfl) (s_val rfl (v_assign rfl) (s_val rfl (v_assign rfl) (x_nil (n_then (x_ret (r_block (r_then (r_then (r_block (r_then (x_done (.inl rfl) (.cons (r_tmp rfl) (.cons (r_tmp rfl) .nil)) ?_)))))))))))))))))))
              rw [hbad (by rw [hW]; first | (rw [decide_eq_false (by omega), Bool.and_false]; rfl) | (simp_all; done))]
              exact ⟨_, ⟨_, rfl, rfl⟩, inferInstance⟩
            · intro g7_11
              refine s_val rfl (v_fieldAddr rfl Tryz.underlying87 rfl Tryz.sizeOf3 rfl (by first | exact Nat.zero_add _ | rfl)) ?_
              refine s_yes rfl rfl (s_val rfl (v_load Tryz.isAgg3 rfl (cell_own rfl)) ?_)
              refine s_yes rfl rfl (s_val rfl (v_gtr rfl rfl) (s_val rfl (v_pick_f rfl rfl) (x_nil (n_then ?_))))
              refine x_if rfl ?_ ?_
              · intro c7
                refine x_seq (x_region (s_val rfl (v_move rfl) (s_val rfl (v_assign rfl) (s_val rfl (v_assign rfl) (x_nil (n_then (x_ret (r_block (r_then (r_then (r_block (r_then (x_done (.inl rfl) (.cons (r_tmp rfl) (.cons (r_tmp rfl) .nil)) ?_)))))))))))))
                rw [hbad (by rw [hW]; first | (rw [decide_eq_false (by omega), Bool.and_false]; rfl) | (simp_all; done))]
                exact ⟨_, ⟨_, rfl, rfl⟩, inferInstance⟩
              · intro c7
                refine x_skip (n_block (n_then ?_))
                have hv1 : v = true := by first | assumption | simp_all
                rw [hv1, decide_eq_true (by omega)] at hW
                refine x_region (s_val rfl (v_move rfl) ?_)
                refine s_val rfl (v_add rfl rfl (by first | exact w64 (by omega) | rfl)) ?_
                refine s_val rfl (v_assign rfl) (x_nil (n_then ?_))
                refine inv_intro (i + 1) ?_ ?_ ?_ ?_
                · exact ⟨by omega, hgood hW⟩
                · omega
                · repeat (first | exact sub_nil | refine sub_cons rfl ?_)
                · exact inferInstance
        · intro c4
          refine x_exit (e_then (e_then (e_block (n_then (x_seq (x_region (s_val rfl (v_assign rfl) (s_val rfl (v_assign rfl) (x_nil (n_then (x_ret (x_done (.inl rfl) (.cons (r_tmp rfl) (.cons (r_tmp rfl) .nil)) ?_))))))))))))
          obtain rfl : i = c.sl.length := by omega
          rw [slW, decide_eq_false (by omega), Bool.false_or, anyW_no hI]
          exact ⟨_, ⟨0, rfl, rfl⟩, inferInstance⟩
theorem rcNeed_spec (W0 : World) (R : List HP) (c : Cfg) (hs : ∀ A, SlA (OwnP W0 A) c.ga 3 gsV c.gl) (hb : ∀ g ∈ c.gl, 1 ≤ g.2.1 ∧ g.2.1 ≤ 8 ∧ 0 ≤ g.2.2 ∧ g.2.2 ≤ 8 - g.2.1) (hn : c.nl.length ≤ 4) (hg : c.gl.length ≤ 4) :
    Spec Tryz.prog W0 191 [.agg (cfgV c).toArray] R (fun v B => v = .int .i64 (ndK c c.gl.length) ∧ B = R) := by
  have hle := ndK_le hb hn
  refine spec_body Tryz.func191 Tryz.ntmps191 rfl rfl ?_
  refine x_seq (x_region (s_do rfl (d_boxA rfl) ?_))
  rintro _ _ ⟨b1, rfl, rfl⟩
  refine s_val rfl (v_assign rfl) (x_nil (n_then (x_seq (x_region ?_))))
  refine s_val rfl (v_fieldAddr rfl Tryz.underlying29 rfl Tryz.sizeOf26 rfl (by first | exact Nat.zero_add _ | rfl)) ?_
  refine s_val rfl (v_load Tryz.isAgg26 rfl (cell_own rfl)) ?_
  refine s_val rfl (v_len_slice Tryz.underlying26 rfl) (s_val rfl (v_assign rfl) (x_nil (n_then (x_seq (x_seq (x_region (s_val rfl (v_assign rfl) (x_nil (n_then (x_block ?_))))))))))
  refine x_loop (fun i : Nat => i ≤ c.gl.length) (fun i => [(1, .pointer (some ⟨b1, 0, none⟩)), (3, .int .i64 (ndK c i)), (4, .int .i64 (i : Nat))]) (fun _ => pt b1 (cfO c) :: R) (fun i => c.gl.length - i) 0 ?_ ?_ ?_ ?_
  · exact Nat.zero_le _
  · repeat (first | exact sub_nil | refine sub_cons rfl ?_)
  · exact inferInstance
  · intro i hi
    refine x_seq (x_seq (x_region (s_val rfl (v_move rfl) ?_)))
    refine s_val rfl (v_fieldAddr rfl Tryz.underlying29 rfl Tryz.sizeOf23 rfl (by first | exact Nat.zero_add _ | rfl)) ?_
    refine s_val rfl (v_load Tryz.isAgg23 rfl (cell_own rfl)) ?_
    refine s_val rfl (v_len_slice Tryz.underlying23 rfl) (s_val rfl (v_lss rfl rfl) (x_nil (n_then ?_)))
    refine x_if rfl ?_ ?_
    · intro c3
      refine x_skip (n_then (x_seq (x_block ?_)))
      have hi1 : i < c.gl.length := by omega
      obtain ⟨g, o, hga, hc⟩ := (hs []).at_ hi1
      obtain ⟨x, hx⟩ : ∃ x, c.gl[i] = x := ⟨_, rfl⟩
      rw [hx] at hc
      have hbx := hb _ (List.getElem_mem hi1)
      rw [hx] at hbx
      have hst : ndK c (i + 1) = ndK c i + (x.2.1 + x.2.2) := by rw [ndK, show c.gl.getD i (0, 0, 0) = x by simp [List.getD, hi1, hx]]
      have hl1 := hle i hi
      refine x_draw [(b1, 0, cfgV c), (g, o + i * 3, gsV x)] 16 mixed rfl (sc_own (sc_cons hc.weak sc_end)) (fun hS => ?_)
      refine d_take 0 rfl rfl (by kernel_rfl) (by kernel_rfl) (by kernel_rfl) rfl hS (v_move rfl) ?_
      refine d_take 1 rfl rfl (by kernel_rfl) (by kernel_rfl) (by kernel_rfl) rfl hS (v_fieldAddr rfl Tryz.underlying29 rfl Tryz.sizeOf23 rfl (by first | exact Nat.zero_add _ | rfl)) ?_
      refine d_take 2 rfl rfl (by kernel_rfl) (by kernel_rfl) (by kernel_rfl) rfl hS (v_load Tryz.isAgg23 rfl (by first | exact cell_sc0 (k := 0) rfl rfl | exact cell_sc0 (k := 1) rfl rfl)) ?_
      refine d_take 3 rfl rfl (by kernel_rfl) (by kernel_rfl) (by kernel_rfl) rfl hS (v_move rfl) ?_
      refine d_take 4 rfl rfl (by kernel_rfl) (by kernel_rfl) (by kernel_rfl) rfl hS (v_idxA Tryz.underlying23 Tryz.sizeOf85 rfl hga rfl rfl hi1 (by first | exact Nat.zero_add _ | rfl)) ?_
      refine d_take 5 rfl rfl (by kernel_rfl) (by kernel_rfl) (by kernel_rfl) rfl hS (v_fieldAddr rfl Tryz.underlying85 rfl Tryz.sizeOf3 rfl (by first | exact Nat.zero_add _ | rfl)) ?_
      refine d_take 6 rfl rfl (by kernel_rfl) (by kernel_rfl) (by kernel_rfl) rfl hS (v_load Tryz.isAgg3 rfl (cell_sc (k := 1) (j := 1) rfl rfl)) ?_
      refine d_take 7 rfl rfl (by kernel_rfl) (by kernel_rfl) (by kernel_rfl) rfl hS (v_add rfl rfl (w64 (by omega))) ?_
      refine d_take 8 rfl rfl (by kernel_rfl) (by kernel_rfl) (by kernel_rfl) rfl hS (v_fieldAddr rfl Tryz.underlying29 rfl Tryz.sizeOf23 rfl (by first | exact Nat.zero_add _ | rfl)) ?_
      refine d_take 9 rfl rfl (by kernel_rfl) (by kernel_rfl) (by kernel_rfl) rfl hS (v_load Tryz.isAgg23 rfl (by first | exact cell_sc0 (k := 0) rfl rfl | exact cell_sc0 (k := 1) rfl rfl)) ?_
      refine d_take 10 rfl rfl (by kernel_rfl) (by kernel_rfl) (by kernel_rfl) rfl hS (v_move rfl) ?_
      refine d_take 11 rfl rfl (by kernel_rfl) (by kernel_rfl) (by kernel_rfl) rfl hS (v_idxA Tryz.underlying23 Tryz.sizeOf85 rfl hga rfl rfl hi1 (by first | exact Nat.zero_add _ | rfl)) ?_
      refine d_take 12 rfl rfl (by kernel_rfl) (by kernel_rfl) (by kernel_rfl) rfl hS (v_fieldAddr rfl Tryz.underlying85 rfl Tryz.sizeOf3 rfl (by first | exact Nat.zero_add _ | rfl)) ?_
      refine d_take 13 rfl rfl (by kernel_rfl) (by kernel_rfl) (by kernel_rfl) rfl hS (v_load Tryz.isAgg3 rfl (cell_sc (k := 1) (j := 2) rfl rfl)) ?_
      refine d_take 14 rfl rfl (by kernel_rfl) (by kernel_rfl) (by kernel_rfl) rfl hS (v_add rfl rfl (by rw [w64 (by omega), hst]; omega : IntKind.wrap .i64 (ndK c i + x.2.1 + x.2.2) = ndK c (i + 1))) ?_
      refine d_take 15 rfl rfl (by kernel_rfl) (by kernel_rfl) (by kernel_rfl) rfl hS (v_assign rfl) ?_
      refine d_done (by kernel_rfl) ?_; clear hS
      refine n_block (n_then (x_region (s_val rfl (v_move rfl) ?_)))
      refine s_val rfl (v_add rfl rfl (by first | exact w64 (by omega) | rfl)) ?_
      refine s_val rfl (v_assign rfl) (x_nil (n_then ?_))
      refine inv_intro (i + 1) ?_ ?_ ?_ ?_
      · omega
      · omega
      · repeat (first | exact sub_nil | refine sub_cons rfl ?_)
      · exact inferInstance
    · intro c3
      refine x_exit (e_then (e_then (e_block (n_then (x_seq (x_region (s_val rfl (v_move rfl) (s_val rfl (v_assign rfl) (x_nil (n_then (x_ret (x_done (.inl rfl) (.cons (r_tmp rfl) .nil) ?_))))))))))))
      obtain rfl : i = c.gl.length := by omega
      exact ⟨_, ⟨rfl, rfl⟩, inferInstance⟩
theorem gst_row {W0 : World} {c : Cfg} (h : CfOk W0 c) (q : Int) : ∃ (gg og j : Nat) (vs : List Value), (∀ A, Cells (OwnP W0 A) gg (og + j * 3) vs) ∧ (isG c q = true → c.ga = some ⟨gg, og, none⟩ ∧ q = (j : Int) ∧ j < c.gl.length ∧ ∃ u : Int × Int × Int, vs = gsV u ∧ labG c q = u.1) := by
  cases hG : isG c q with
  | false => exact ⟨0, 0, 0, [], fun A k v hk => by simp at hk, fun h => by cases h⟩
  | true =>
    have hb : 0 ≤ q ∧ q < c.gl.length := of_decide_eq_true hG
    obtain ⟨j, rfl⟩ : ∃ j : Nat, q = (j : Int) := ⟨q.toNat, by omega⟩
    have hj : j < c.gl.length := by omega
    obtain ⟨gg, og, hga, _⟩ := (h.g []).at_ hj
    refine ⟨gg, og, j, gsV c.gl[j], fun A => ?_, fun _ => ⟨hga, rfl, hj, c.gl[j], rfl, ?_⟩⟩
    · obtain ⟨g2, o2, h2, hc2⟩ := (h.g A).at_ hj
      rw [hga] at h2; cases h2; exact hc2
    · rw [labG, Int.toNat_natCast]; simp [List.getD, hj]
theorem isG_lt {c : Cfg} {q : Int} (h : isG c q = true) : 0 ≤ q ∧ q < c.gl.length := of_decide_eq_true h
theorem isG_no {c : Cfg} {q : Int} (h : isG c q = false) : ¬ (0 ≤ q ∧ q < c.gl.length) := of_decide_eq_false h
theorem rcRings_spec (W0 : World) (R : List HP) (c : Cfg) (h : CfOk W0 c) :
    Spec Tryz.prog W0 188 [.agg (cfgV c).toArray] R (fun v B => ∃ r, v = .tuple #[.bool (riW c), .int .i64 r] ∧ B = R) := by
  refine spec_body Tryz.func188 Tryz.ntmps188 rfl rfl ?_
  refine x_seq (x_region (s_do rfl (d_boxA rfl) ?_))
  rintro _ _ ⟨b1, rfl, rfl⟩
  refine s_val rfl (v_assign rfl) (s_val rfl (v_assign rfl) (x_nil (n_then (x_seq (x_seq (x_region ?_))))))
  refine s_val rfl (v_fieldAddr rfl Tryz.underlying29 rfl Tryz.sizeOf26 rfl (by first | exact Nat.zero_add _ | rfl)) ?_
  refine s_val rfl (v_load Tryz.isAgg26 rfl (cell_own rfl)) ?_
  refine s_val rfl (v_len_slice Tryz.underlying26 rfl) (s_val rfl (v_gtr rfl rfl) (x_nil (n_then ?_)))
  refine x_if rfl ?_ ?_
  · intro c1
    refine x_seq (x_region (s_val rfl (v_assign rfl) (s_val rfl (v_assign rfl) (x_nil (n_then (x_ret (r_then (x_done (.inl rfl) (.cons (r_tmp rfl) (.cons (r_tmp rfl) .nil)) ?_))))))))
    rw [riW, decide_eq_true (by omega), Bool.true_or]
    exact ⟨_, ⟨0, rfl, rfl⟩, inferInstance⟩
  · intro c1
    refine x_skip (n_then (x_seq (x_seq (x_region (s_val rfl (v_assign rfl) (x_nil (n_then (x_block ?_))))))))
    refine x_loop (fun i : Nat => i ≤ c.nl.length ∧ (∀ j, j < i → rngW c (c.nl.getD j (0, 0)) = false)) (fun i => [(1, .pointer (some ⟨b1, 0, none⟩)), (4, .int .i64 i)]) (fun _ => pt b1 (cfO c) :: R) (fun i => c.nl.length - i) 0 ?_ ?_ ?_ ?_
    · exact ⟨Nat.zero_le _, fun j hj => absurd hj (Nat.not_lt_zero _)⟩
    · repeat (first | exact sub_nil | refine sub_cons rfl ?_)
    · exact inferInstance
    · intro i ⟨hi, hI⟩
      refine x_seq (x_seq (x_region (s_val rfl (v_move rfl) ?_)))
      refine s_val rfl (v_fieldAddr rfl Tryz.underlying29 rfl Tryz.sizeOf26 rfl (by first | exact Nat.zero_add _ | rfl)) ?_
      refine s_val rfl (v_load Tryz.isAgg26 rfl (cell_own rfl)) ?_
      refine s_val rfl (v_len_slice Tryz.underlying26 rfl) (s_val rfl (v_lss rfl rfl) (x_nil (n_then ?_)))
      refine x_if rfl ?_ ?_
      · intro c4
        refine x_skip (n_then (x_seq (x_block (x_seq ?_))))
        have hi1 : i < c.nl.length := by omega
        obtain ⟨g, o, hga, hc⟩ := (h.n []).at_ hi1
        obtain ⟨⟨p, q⟩, hx⟩ : ∃ x, c.nl[i] = x := ⟨_, rfl⟩
        have hgd : c.nl.getD i (0, 0) = (p, q) := by simp [List.getD, hi1, hx]
        rw [hx] at hc
        have hbad : rngW c (p, q) = true → riW c = true := fun z => by
          rw [riW, anyW_yes (w := fun i => rngW c (c.nl.getD i (0, 0))) hi1 (by rw [hgd]; exact z), Bool.or_true]
        have hgood := fun z => any_next (w := fun i => rngW c (c.nl.getD i (0, 0))) hI (show rngW c (c.nl.getD i (0, 0)) = false by rw [hgd]; exact z)
        obtain ⟨g1, o1, j1, vs1, hcv1, hr1⟩ := gst_row h p
        obtain ⟨g2, o2, j2, vs2, hcv2, hr2⟩ := gst_row h q
        obtain ⟨w1, hw1⟩ : ∃ w, isG c p = w := ⟨_, rfl⟩
        obtain ⟨w2, hw2⟩ : ∃ w, isG c q = w := ⟨_, rfl⟩
        have hW : rngW c (p, q) = !(w1 && w2 && decide (p ≠ q) && flB (labG c p) (labG c q)) := by rw [rngW, hw1, hw2]
        rw [hw1] at hr1
        rw [hw2] at hr2
        refine x_region ?_
        refine s_val rfl (v_fieldAddr rfl Tryz.underlying29 rfl Tryz.sizeOf26 rfl (by first | exact Nat.zero_add _ | rfl)) ?_
        refine s_val rfl (v_load Tryz.isAgg26 rfl (cell_own rfl)) ?_
        refine s_val rfl (v_move rfl) ?_
        refine s_val rfl (v_idxA Tryz.underlying26 Tryz.sizeOf61 rfl hga rfl rfl hi1 (by first | exact Nat.zero_add _ | rfl)) ?_
        refine s_val rfl (v_loadAgg Tryz.isAgg61 Tryz.sizeOf61 rfl hc.weak rfl) ?_
        refine s_do rfl (d_allocA Tryz.zeroValue61) ?_
        rintro _ _ ⟨bx, rfl, rfl⟩
        refine s_do0 (d_storeAll Tryz.sizeOf61 rfl rfl rfl rfl rfl) ?_
        rintro _ _ rfl
        refine x_nil (n_then (x_seq ?_))
        refine x_draw [(b1, 0, cfgV c), (bx, 0, pairV (p, q)), (g1, o1 + j1 * 3, vs1), (g2, o2 + j2 * 3, vs2)] 37 mixed rfl (sc_own (sc_own (sc_cons (hcv1 _) (sc_cons (hcv2 _) sc_end)))) (fun hS => ?_)
        refine d_take 0 rfl rfl (by kernel_rfl) (by kernel_rfl) (by kernel_rfl) rfl hS (v_loadAgg Tryz.isAgg29 Tryz.sizeOf29 rfl (by first | exact cells_sc (k := 0) rfl | exact cells_sc (k := 1) rfl | exact cells_sc (k := 2) rfl | exact cells_sc (k := 3) rfl | exact cells_sc (k := 4) rfl) rfl) ?_
        refine d_take 1 rfl rfl (by kernel_rfl) (by kernel_rfl) (by kernel_rfl) rfl hS (v_fieldAddr rfl Tryz.underlying61 rfl Tryz.sizeOf3 rfl (by first | exact Nat.zero_add _ | rfl)) ?_
        refine d_take 2 rfl rfl (by kernel_rfl) (by kernel_rfl) (by kernel_rfl) rfl hS (v_load Tryz.isAgg3 rfl (by first | exact cell_sc0 (k := 0) rfl rfl | exact cell_sc0 (k := 1) rfl rfl | exact cell_sc0 (k := 2) rfl rfl | exact cell_sc0 (k := 3) rfl rfl | exact cell_sc0 (k := 4) rfl rfl)) ?_
        refine d_one 3 (by kernel_rfl) rfl rfl (d_call Tryz.call190 rfl (rcIsG_spec W0 _ c p)) rfl ?_; clear hS
        rintro _ B_ ⟨rfl, hB_⟩
        obtain rfl := hB_.symm
        rw [hw1]
        refine ⟨(sc_own (sc_own (sc_cons (hcv1 _) (sc_cons (hcv2 _) sc_end)))), fun hS => ?_⟩
        refine d_take 4 rfl rfl (by kernel_rfl) (by kernel_rfl) (by kernel_rfl) rfl hS (v_not rfl) ?_
        refine d_take 5 rfl rfl (by kernel_rfl) (by kernel_rfl) (by kernel_rfl) rfl hS (v_move rfl) ?_
        refine x_split (t := 27) rfl ?_ ?_
        · intro g7_6
          refine d_skip 6 rfl rfl (by kernel_rfl) (by kernel_rfl) (by kernel_rfl) rfl hS ?_
          refine d_skip 7 rfl rfl (by kernel_rfl) (by kernel_rfl) (by kernel_rfl) rfl hS ?_
          refine d_skip 8 rfl rfl (by kernel_rfl) (by kernel_rfl) (by kernel_rfl) rfl hS ?_
          refine d_skip 9 rfl rfl (by kernel_rfl) (by kernel_rfl) (by kernel_rfl) rfl hS ?_
          refine d_skip 10 rfl rfl (by kernel_rfl) (by kernel_rfl) (by kernel_rfl) rfl hS ?_
          refine d_take 11 rfl rfl (by kernel_rfl) (by kernel_rfl) (by kernel_rfl) rfl hS (v_pick_t rfl rfl) ?_
          refine d_take 12 rfl rfl (by kernel_rfl) (by kernel_rfl) (by kernel_rfl) rfl hS (v_move rfl) ?_
          refine d_skip 13 rfl rfl (by kernel_rfl) (by kernel_rfl) (by kernel_rfl) rfl hS ?_
          refine d_skip 14 rfl rfl (by kernel_rfl) (by kernel_rfl) (by kernel_rfl) rfl hS ?_
          refine d_skip 15 rfl rfl (by kernel_rfl) (by kernel_rfl) (by kernel_rfl) rfl hS ?_
          refine d_skip 16 rfl rfl (by kernel_rfl) (by kernel_rfl) (by kernel_rfl) rfl hS ?_
          refine d_skip 17 rfl rfl (by kernel_rfl) (by kernel_rfl) (by kernel_rfl) rfl hS ?_
          refine d_take 18 rfl rfl (by kernel_rfl) (by kernel_rfl) (by kernel_rfl) rfl hS (v_pick_t rfl rfl) ?_
          refine d_take 19 rfl rfl (by kernel_rfl) (by kernel_rfl) (by kernel_rfl) rfl hS (v_move rfl) ?_
          refine d_skip 20 rfl rfl (by kernel_rfl) (by kernel_rfl) (by kernel_rfl) rfl hS ?_
          refine d_skip 21 rfl rfl (by kernel_rfl) (by kernel_rfl) (by kernel_rfl) rfl hS ?_
          refine d_skip 22 rfl rfl (by kernel_rfl) (by kernel_rfl) (by kernel_rfl) rfl hS ?_
          refine d_skip 23 rfl rfl (by kernel_rfl) (by kernel_rfl) (by kernel_rfl) rfl hS ?_
          refine d_skip 24 rfl rfl (by kernel_rfl) (by kernel_rfl) (by kernel_rfl) rfl hS ?_
          refine d_skip 25 rfl rfl (by kernel_rfl) (by kernel_rfl) (by kernel_rfl) rfl hS ?_
          refine d_skip 26 rfl rfl (by kernel_rfl) (by kernel_rfl) (by kernel_rfl) rfl hS ?_
          refine d_skip 27 rfl rfl (by kernel_rfl) (by kernel_rfl) (by kernel_rfl) rfl hS ?_
          refine d_skip 28 rfl rfl (by kernel_rfl) (by kernel_rfl) (by kernel_rfl) rfl hS ?_
          refine d_skip 29 rfl rfl (by kernel_rfl) (by kernel_rfl) (by kernel_rfl) rfl hS ?_
          refine d_skip 30 rfl rfl (by kernel_rfl) (by kernel_rfl) (by kernel_rfl) rfl hS ?_
          refine d_skip 31 rfl rfl (by kernel_rfl) (by kernel_rfl) (by kernel_rfl) rfl hS ?_
          refine d_skip 32 rfl rfl (by kernel_rfl) (by kernel_rfl) (by kernel_rfl) rfl hS ?_
          refine d_skip 33 rfl rfl (by kernel_rfl) (by kernel_rfl) (by kernel_rfl) rfl hS ?_
          refine d_skip 34 rfl rfl (by kernel_rfl) (by kernel_rfl) (by kernel_rfl) rfl hS ?_
          refine d_skip 35 rfl rfl (by kernel_rfl) (by kernel_rfl) (by kernel_rfl) rfl hS ?_
          refine d_take 36 rfl rfl (by kernel_rfl) (by kernel_rfl) (by kernel_rfl) rfl hS (v_pick_t rfl rfl) ?_
          refine d_done (by kernel_rfl) ?_; clear hS
          refine n_then (x_ift rfl (x_seq (x_region (s_val rfl (v_move rfl) (s_val rfl (v_assign rfl) (s_val rfl (v_assign rfl) (x_nil (n_then (x_ret (r_block (r_then (r_then (r_block (r_then (x_done (.inl rfl) (.cons (r_tmp rfl) (.cons (r_tmp rfl) .nil)) ?_)))))))))))))))
          rw [hbad (by rw [hW]; first | (simp_all; done) | (rw [decide_eq_false (by omega)]; simp))]
          exact ⟨_, ⟨_, rfl, rfl⟩, inferInstance⟩
        · intro g7_6
          refine d_take 6 rfl rfl (by kernel_rfl) (by kernel_rfl) (by kernel_rfl) rfl hS (v_loadAgg Tryz.isAgg29 Tryz.sizeOf29 rfl (by first | exact cells_sc (k := 0) rfl | exact cells_sc (k := 1) rfl | exact cells_sc (k := 2) rfl | exact cells_sc (k := 3) rfl | exact cells_sc (k := 4) rfl) rfl) ?_
          refine d_take 7 rfl rfl (by kernel_rfl) (by kernel_rfl) (by kernel_rfl) rfl hS (v_fieldAddr rfl Tryz.underlying61 rfl Tryz.sizeOf3 rfl (by first | exact Nat.zero_add _ | rfl)) ?_
          refine d_take 8 rfl rfl (by kernel_rfl) (by kernel_rfl) (by kernel_rfl) rfl hS (v_load Tryz.isAgg3 rfl (by first | exact cell_sc0 (k := 0) rfl rfl | exact cell_sc0 (k := 1) rfl rfl | exact cell_sc0 (k := 2) rfl rfl | exact cell_sc0 (k := 3) rfl rfl | exact cell_sc0 (k := 4) rfl rfl)) ?_
          refine d_one 9 (by kernel_rfl) rfl rfl (d_call Tryz.call190 rfl (rcIsG_spec W0 _ c q)) rfl ?_; clear hS
          rintro _ B_ ⟨rfl, hB_⟩
          obtain rfl := hB_.symm
          rw [hw2]
          refine ⟨(sc_own (sc_own (sc_cons (hcv1 _) (sc_cons (hcv2 _) sc_end)))), fun hS => ?_⟩
          refine d_take 10 rfl rfl (by kernel_rfl) (by kernel_rfl) (by kernel_rfl) rfl hS (v_not rfl) ?_
          refine d_take 11 rfl rfl (by kernel_rfl) (by kernel_rfl) (by kernel_rfl) rfl hS (v_pick_f rfl rfl) ?_
          refine d_take 12 rfl rfl (by kernel_rfl) (by kernel_rfl) (by kernel_rfl) rfl hS (v_move rfl) ?_
          refine x_split (t := 34) rfl ?_ ?_
          · intro g7_13
            refine d_skip 13 rfl rfl (by kernel_rfl) (by kernel_rfl) (by kernel_rfl) rfl hS ?_
            refine d_skip 14 rfl rfl (by kernel_rfl) (by kernel_rfl) (by kernel_rfl) rfl hS ?_
            refine d_skip 15 rfl rfl (by kernel_rfl) (by kernel_rfl) (by kernel_rfl) rfl hS ?_
            refine d_skip 16 rfl rfl (by kernel_rfl) (by kernel_rfl) (by kernel_rfl) rfl hS ?_
            refine d_skip 17 rfl rfl (by kernel_rfl) (by kernel_rfl) (by kernel_rfl) rfl hS ?_
            refine d_take 18 rfl rfl (by kernel_rfl) (by kernel_rfl) (by kernel_rfl) rfl hS (v_pick_t rfl rfl) ?_
            refine d_take 19 rfl rfl (by kernel_rfl) (by kernel_rfl) (by kernel_rfl) rfl hS (v_move rfl) ?_
            refine d_skip 20 rfl rfl (by kernel_rfl) (by kernel_rfl) (by kernel_rfl) rfl hS ?_
            refine d_skip 21 rfl rfl (by kernel_rfl) (by kernel_rfl) (by kernel_rfl) rfl hS ?_
            refine d_skip 22 rfl rfl (by kernel_rfl) (by kernel_rfl) (by kernel_rfl) rfl hS ?_
            refine d_skip 23 rfl rfl (by kernel_rfl) (by kernel_rfl) (by kernel_rfl) rfl hS ?_
            refine d_skip 24 rfl rfl (by kernel_rfl) (by kernel_rfl) (by kernel_rfl) rfl hS ?_
            refine d_skip 25 rfl rfl (by kernel_rfl) (by kernel_rfl) (by kernel_rfl) rfl hS ?_
            refine d_skip 26 rfl rfl (by kernel_rfl) (by kernel_rfl) (by kernel_rfl) rfl hS ?_
            refine d_skip 27 rfl rfl (by kernel_rfl) (by kernel_rfl) (by kernel_rfl) rfl hS ?_
            refine d_skip 28 rfl rfl (by kernel_rfl) (by kernel_rfl) (by kernel_rfl) rfl hS ?_
            refine d_skip 29 rfl rfl (by kernel_rfl) (by kernel_rfl) (by kernel_rfl) rfl hS ?_
            refine d_skip 30 rfl rfl (by kernel_rfl) (by kernel_rfl) (by kernel_rfl) rfl hS ?_
            refine d_skip 31 rfl rfl (by kernel_rfl) (by kernel_rfl) (by kernel_rfl) rfl hS ?_
            refine d_skip 32 rfl rfl (by kernel_rfl) (by kernel_rfl) (by kernel_rfl) rfl hS ?_
            refine d_skip 33 rfl rfl (by kernel_rfl) (by kernel_rfl) (by kernel_rfl) rfl hS ?_
            refine d_skip 34 rfl rfl (by kernel_rfl) (by kernel_rfl) (by kernel_rfl) rfl hS ?_
            refine d_skip 35 rfl rfl (by kernel_rfl) (by kernel_rfl) (by kernel_rfl) rfl hS ?_
            refine d_take 36 rfl rfl (by kernel_rfl) (by kernel_rfl) (by kernel_rfl) rfl hS (v_pick_t rfl rfl) ?_
            refine d_done (by kernel_rfl) ?_; clear hS
            refine n_then (x_ift rfl (x_seq (x_region (s_val rfl (v_move rfl) (s_val rfl (v_assign rfl) (s_val rfl (v_assign rfl) (x_nil (n_then (x_ret (r_block (r_then (r_then (r_block (r_then (x_done (.inl rfl) (.cons (r_tmp rfl) (.cons (r_tmp rfl) .nil)) ?_)))))))))))))))
            rw [hbad (by rw [hW]; first | (simp_all; done) | (rw [decide_eq_false (by omega)]; simp))]
            exact ⟨_, ⟨_, rfl, rfl⟩, inferInstance⟩
          · intro g7_13
            refine d_take 13 rfl rfl (by kernel_rfl) (by kernel_rfl) (by kernel_rfl) rfl hS (v_fieldAddr rfl Tryz.underlying61 rfl Tryz.sizeOf3 rfl (by first | exact Nat.zero_add _ | rfl)) ?_
            refine d_take 14 rfl rfl (by kernel_rfl) (by kernel_rfl) (by kernel_rfl) rfl hS (v_load Tryz.isAgg3 rfl (by first | exact cell_sc0 (k := 0) rfl rfl | exact cell_sc0 (k := 1) rfl rfl | exact cell_sc0 (k := 2) rfl rfl | exact cell_sc0 (k := 3) rfl rfl | exact cell_sc0 (k := 4) rfl rfl)) ?_
            refine d_take 15 rfl rfl (by kernel_rfl) (by kernel_rfl) (by kernel_rfl) rfl hS (v_fieldAddr rfl Tryz.underlying61 rfl Tryz.sizeOf3 rfl (by first | exact Nat.zero_add _ | rfl)) ?_
            refine d_take 16 rfl rfl (by kernel_rfl) (by kernel_rfl) (by kernel_rfl) rfl hS (v_load Tryz.isAgg3 rfl (by first | exact cell_sc0 (k := 0) rfl rfl | exact cell_sc0 (k := 1) rfl rfl | exact cell_sc0 (k := 2) rfl rfl | exact cell_sc0 (k := 3) rfl rfl | exact cell_sc0 (k := 4) rfl rfl)) ?_
            refine d_take 17 rfl rfl (by kernel_rfl) (by kernel_rfl) (by kernel_rfl) rfl hS (v_eql rfl rfl) ?_
            refine d_take 18 rfl rfl (by kernel_rfl) (by kernel_rfl) (by kernel_rfl) rfl hS (v_pick_f rfl rfl) ?_
            refine d_take 19 rfl rfl (by kernel_rfl) (by kernel_rfl) (by kernel_rfl) rfl hS (v_move rfl) ?_
            refine x_split (t := 41) rfl ?_ ?_
            · intro g7_20
              refine d_skip 20 rfl rfl (by kernel_rfl) (by kernel_rfl) (by kernel_rfl) rfl hS ?_
              refine d_skip 21 rfl rfl (by kernel_rfl) (by kernel_rfl) (by kernel_rfl) rfl hS ?_
              refine d_skip 22 rfl rfl (by kernel_rfl) (by kernel_rfl) (by kernel_rfl) rfl hS ?_
              refine d_skip 23 rfl rfl (by kernel_rfl) (by kernel_rfl) (by kernel_rfl) rfl hS ?_
              refine d_skip 24 rfl rfl (by kernel_rfl) (by kernel_rfl) (by kernel_rfl) rfl hS ?_
              refine d_skip 25 rfl rfl (by kernel_rfl) (by kernel_rfl) (by kernel_rfl) rfl hS ?_
              refine d_skip 26 rfl rfl (by kernel_rfl) (by kernel_rfl) (by kernel_rfl) rfl hS ?_
              refine d_skip 27 rfl rfl (by kernel_rfl) (by kernel_rfl) (by kernel_rfl) rfl hS ?_
              refine d_skip 28 rfl rfl (by kernel_rfl) (by kernel_rfl) (by kernel_rfl) rfl hS ?_
              refine d_skip 29 rfl rfl (by kernel_rfl) (by kernel_rfl) (by kernel_rfl) rfl hS ?_
              refine d_skip 30 rfl rfl (by kernel_rfl) (by kernel_rfl) (by kernel_rfl) rfl hS ?_
              refine d_skip 31 rfl rfl (by kernel_rfl) (by kernel_rfl) (by kernel_rfl) rfl hS ?_
              refine d_skip 32 rfl rfl (by kernel_rfl) (by kernel_rfl) (by kernel_rfl) rfl hS ?_
              refine d_skip 33 rfl rfl (by kernel_rfl) (by kernel_rfl) (by kernel_rfl) rfl hS ?_
              refine d_skip 34 rfl rfl (by kernel_rfl) (by kernel_rfl) (by kernel_rfl) rfl hS ?_
              refine d_skip 35 rfl rfl (by kernel_rfl) (by kernel_rfl) (by kernel_rfl) rfl hS ?_
              refine d_take 36 rfl rfl (by kernel_rfl) (by kernel_rfl) (by kernel_rfl) rfl hS (v_pick_t rfl rfl) ?_
              refine d_done (by kernel_rfl) ?_; clear hS
              refine n_then (x_ift rfl (x_seq (x_region (s_val rfl (v_move rfl) (s_val rfl (v_assign rfl) (s_val rfl (v_assign rfl) (x_nil (n_then (x_ret (r_block (r_then (r_then (r_block (r_then (x_done (.inl rfl) (.cons (r_tmp rfl) (.cons (r_tmp rfl) .nil)) ?_)))))))))))))))
              rw [hbad (by rw [hW]; first | (simp_all; done) | (rw [decide_eq_false (by omega)]; simp))]
              exact ⟨_, ⟨_, rfl, rfl⟩, inferInstance⟩
            · intro g7_20
              obtain rfl : w1 = true := by first | assumption | simp_all
              obtain rfl : w2 = true := by first | assumption | simp_all
              obtain ⟨ha1, hq1, hj1, u1, rfl, hl1⟩ := hr1 rfl
              obtain ⟨ha2, hq2, hj2, u2, rfl, hl2⟩ := hr2 rfl
              rw [hl1, hl2] at hW
              refine d_take 20 rfl rfl (by kernel_rfl) (by kernel_rfl) (by kernel_rfl) rfl hS (v_fieldAddr rfl Tryz.underlying29 rfl Tryz.sizeOf23 rfl (by first | exact Nat.zero_add _ | rfl)) ?_
              refine d_take 21 rfl rfl (by kernel_rfl) (by kernel_rfl) (by kernel_rfl) rfl hS (v_load Tryz.isAgg23 rfl (by first | exact cell_sc0 (k := 0) rfl rfl | exact cell_sc0 (k := 1) rfl rfl | exact cell_sc0 (k := 2) rfl rfl | exact cell_sc0 (k := 3) rfl rfl | exact cell_sc0 (k := 4) rfl rfl)) ?_
              refine d_take 22 rfl rfl (by kernel_rfl) (by kernel_rfl) (by kernel_rfl) rfl hS (v_fieldAddr rfl Tryz.underlying61 rfl Tryz.sizeOf3 rfl (by first | exact Nat.zero_add _ | rfl)) ?_
              refine d_take 23 rfl rfl (by kernel_rfl) (by kernel_rfl) (by kernel_rfl) rfl hS (v_load Tryz.isAgg3 rfl (by first | exact cell_sc0 (k := 0) rfl rfl | exact cell_sc0 (k := 1) rfl rfl | exact cell_sc0 (k := 2) rfl rfl | exact cell_sc0 (k := 3) rfl rfl | exact cell_sc0 (k := 4) rfl rfl)) ?_
              refine d_take 24 rfl rfl (by kernel_rfl) (by kernel_rfl) (by kernel_rfl) rfl hS (v_idxA Tryz.underlying23 Tryz.sizeOf85 rfl ha1 rfl hq1 hj1 (by first | exact Nat.zero_add _ | rfl)) ?_
              refine d_take 25 rfl rfl (by kernel_rfl) (by kernel_rfl) (by kernel_rfl) rfl hS (v_fieldAddr rfl Tryz.underlying85 rfl Tryz.sizeOf3 rfl (by first | exact Nat.zero_add _ | rfl)) ?_
              refine d_take 26 rfl rfl (by kernel_rfl) (by kernel_rfl) (by kernel_rfl) rfl hS (v_load Tryz.isAgg3 rfl (cell_sc (k := 2) (j := 0) rfl rfl)) ?_
              refine d_take 27 rfl rfl (by kernel_rfl) (by kernel_rfl) (by kernel_rfl) rfl hS (v_fieldAddr rfl Tryz.underlying29 rfl Tryz.sizeOf23 rfl (by first | exact Nat.zero_add _ | rfl)) ?_
              refine d_take 28 rfl rfl (by kernel_rfl) (by kernel_rfl) (by kernel_rfl) rfl hS (v_load Tryz.isAgg23 rfl (by first | exact cell_sc0 (k := 0) rfl rfl | exact cell_sc0 (k := 1) rfl rfl | exact cell_sc0 (k := 2) rfl rfl | exact cell_sc0 (k := 3) rfl rfl | exact cell_sc0 (k := 4) rfl rfl)) ?_
              refine d_take 29 rfl rfl (by kernel_rfl) (by kernel_rfl) (by kernel_rfl) rfl hS (v_fieldAddr rfl Tryz.underlying61 rfl Tryz.sizeOf3 rfl (by first | exact Nat.zero_add _ | rfl)) ?_
              refine d_take 30 rfl rfl (by kernel_rfl) (by kernel_rfl) (by kernel_rfl) rfl hS (v_load Tryz.isAgg3 rfl (by first | exact cell_sc0 (k := 0) rfl rfl | exact cell_sc0 (k := 1) rfl rfl | exact cell_sc0 (k := 2) rfl rfl | exact cell_sc0 (k := 3) rfl rfl | exact cell_sc0 (k := 4) rfl rfl)) ?_
              refine d_take 31 rfl rfl (by kernel_rfl) (by kernel_rfl) (by kernel_rfl) rfl hS (v_idxA Tryz.underlying23 Tryz.sizeOf85 rfl ha2 rfl hq2 hj2 (by first | exact Nat.zero_add _ | rfl)) ?_
              refine d_take 32 rfl rfl (by kernel_rfl) (by kernel_rfl) (by kernel_rfl) rfl hS (v_fieldAddr rfl Tryz.underlying85 rfl Tryz.sizeOf3 rfl (by first | exact Nat.zero_add _ | rfl)) ?_
              refine d_take 33 rfl rfl (by kernel_rfl) (by kernel_rfl) (by kernel_rfl) rfl hS (v_load Tryz.isAgg3 rfl (cell_sc (k := 3) (j := 0) rfl rfl)) ?_
              refine d_one 34 (by kernel_rfl) rfl rfl (d_call Tryz.call295 rfl (rlFlows_spec W0 _ u1.1 u2.1)) rfl ?_; clear hS
              rintro _ B_ ⟨rfl, hB_⟩
              obtain rfl := hB_.symm
              refine ⟨(sc_own (sc_own (sc_cons (hcv1 _) (sc_cons (hcv2 _) sc_end)))), fun hS => ?_⟩
              refine d_take 35 rfl rfl (by kernel_rfl) (by kernel_rfl) (by kernel_rfl) rfl hS (v_not rfl) ?_
              refine d_take 36 rfl rfl (by kernel_rfl) (by kernel_rfl) (by kernel_rfl) rfl hS (v_pick_f rfl rfl) ?_
              refine d_done (by kernel_rfl) ?_; clear hS
              refine n_then ?_
              refine x_if rfl ?_ ?_
              · intro c7
                refine x_seq (x_region (s_val rfl (v_move rfl) (s_val rfl (v_assign rfl) (s_val rfl (v_assign rfl) (x_nil (n_then (x_ret (r_block (r_then (r_then (r_block (r_then (x_done (.inl rfl) (.cons (r_tmp rfl) (.cons (r_tmp rfl) .nil)) ?_)))))))))))))
                rw [hbad (by rw [hW]; first | (simp_all; done) | (rw [decide_eq_false (by omega)]; simp))]
                exact ⟨_, ⟨_, rfl, rfl⟩, inferInstance⟩
              · intro c7
                refine x_skip (n_block (n_then (x_region (s_val rfl (v_move rfl) ?_))))
                refine s_val rfl (v_add rfl rfl (by first | exact w64 (by omega) | rfl)) ?_
                refine s_val rfl (v_assign rfl) (x_nil (n_then ?_))
                refine inv_intro (i + 1) ?_ ?_ ?_ ?_
                · refine ⟨by omega, hgood ?_⟩
                  rw [hW, decide_eq_true (by omega)]; simp_all
                · omega
                · repeat (first | exact sub_nil | refine sub_cons rfl ?_)
                · exact inferInstance
      · intro c4
        refine x_exit (e_then (e_then (e_block (n_then (x_seq (x_region (s_val rfl (v_assign rfl) (s_val rfl (v_assign rfl) (x_nil (n_then (x_ret (x_done (.inl rfl) (.cons (r_tmp rfl) (.cons (r_tmp rfl) .nil)) ?_))))))))))))
        obtain rfl : i = c.nl.length := by omega
        rw [riW, decide_eq_false (by omega), Bool.false_or, anyW_no hI]
        exact ⟨_, ⟨0, rfl, rfl⟩, inferInstance⟩
end Go.Proofs.YtnidndllknffgaaGreat
namespace Go.Proofs.YtnidndllknffgaaGreat
open Go.RowKit
set_option linter.unusedSimpArgs false
set_option linter.unusedVariables false
set_option maxRecDepth 20000
theorem tkn_yes {c : Cfg} {g : Int} {k j : Nat} (hj : j < k) (h : j < c.pl.length) (e : (c.pl[j]).2 = g) : tkn c g k = true := by
  rw [tkn, List.any_eq_true]
  exact ⟨c.pl[j], List.mem_take_iff_getElem.2 ⟨j, by omega, rfl⟩, decide_eq_true e⟩
theorem tkn_no {c : Cfg} {g : Int} {k : Nat} (hI : ∀ j, j < k → (c.pl.getD j (0, 0)).2 ≠ g) : tkn c g k = false := by
  rw [tkn, List.any_eq_false]
  intro x hx
  obtain ⟨j, hj, rfl⟩ := List.mem_take_iff_getElem.1 hx
  have := hI j (by omega)
  rw [show c.pl.getD j (0, 0) = c.pl[j]'(by omega) by simp [List.getD, show j < c.pl.length by omega]] at this
  simpa using this
theorem rcPorts_spec (W0 : World) (R : List HP) (c : Cfg) (h : CfOk W0 c) :
    Spec Tryz.prog W0 187 [.agg (cfgV c).toArray] R (fun v B => ∃ r, v = .tuple #[.bool (poW c), .int .i64 r] ∧ B = R) := by
  refine spec_body Tryz.func187 Tryz.ntmps187 rfl rfl ?_
  refine x_seq (x_region (s_do rfl (d_boxA rfl) ?_))
  rintro _ _ ⟨b1, rfl, rfl⟩
  refine s_val rfl (v_assign rfl) (s_val rfl (v_assign rfl) (x_nil (n_then (x_seq (x_seq (x_region ?_))))))
  refine s_val rfl (v_fieldAddr rfl Tryz.underlying29 rfl Tryz.sizeOf25 rfl (by first | exact Nat.zero_add _ | rfl)) ?_
  refine s_val rfl (v_load Tryz.isAgg25 rfl (cell_own rfl)) ?_
  refine s_val rfl (v_len_slice Tryz.underlying25 rfl) (s_val rfl (v_gtr rfl rfl) (x_nil (n_then ?_)))
  refine x_if rfl ?_ ?_
  · intro c1
    refine x_seq (x_region (s_val rfl (v_assign rfl) (s_val rfl (v_assign rfl) (x_nil (n_then (x_ret (r_then (x_done (.inl rfl) (.cons (r_tmp rfl) (.cons (r_tmp rfl) .nil)) ?_))))))))
    rw [poW, decide_eq_true (by omega), Bool.true_or]
    exact ⟨_, ⟨0, rfl, rfl⟩, inferInstance⟩
  · intro c1
    refine x_skip (n_then (x_seq (x_seq (x_region (s_val rfl (v_assign rfl) (x_nil (n_then (x_block ?_))))))))
    refine x_loop (fun i : Nat => i ≤ c.pl.length ∧ (∀ j, j < i → prtW c j = false)) (fun i => [(1, .pointer (some ⟨b1, 0, none⟩)), (4, .int .i64 i)]) (fun _ => pt b1 (cfO c) :: R) (fun i => c.pl.length - i) 0 ?_ ?_ ?_ ?_
    · exact ⟨Nat.zero_le _, fun j hj => absurd hj (Nat.not_lt_zero _)⟩
    · repeat (first | exact sub_nil | refine sub_cons rfl ?_)
    · exact inferInstance
    · intro i ⟨hi, hI⟩
      refine x_seq (x_seq (x_region (s_val rfl (v_move rfl) ?_)))
      refine s_val rfl (v_fieldAddr rfl Tryz.underlying29 rfl Tryz.sizeOf25 rfl (by first | exact Nat.zero_add _ | rfl)) ?_
      refine s_val rfl (v_load Tryz.isAgg25 rfl (cell_own rfl)) ?_
      refine s_val rfl (v_len_slice Tryz.underlying25 rfl) (s_val rfl (v_lss rfl rfl) (x_nil (n_then ?_)))
      refine x_if rfl ?_ ?_
      · intro c4
        refine x_skip (n_then (x_seq (x_block (x_seq ?_))))
        have hi1 : i < c.pl.length := by omega
        obtain ⟨g, o, hga, hc⟩ := (h.p []).at_ hi1
        obtain ⟨⟨p, q⟩, hx⟩ : ∃ x, c.pl[i] = x := ⟨_, rfl⟩
        have hgd : c.pl.getD i (0, 0) = (p, q) := by simp [List.getD, hi1, hx]
        rw [hx] at hc
        have hbad : prtW c i = true → poW c = true := fun z => by
          rw [poW, anyW_yes hi1 z, Bool.or_true]
        have hgood := fun z => any_next (w := prtW c) hI z
        obtain ⟨g1, o1, j1, vs1, hcv1, hr1⟩ := gst_row h q
        obtain ⟨w1, hw1⟩ : ∃ w, isG c q = w := ⟨_, rfl⟩
        obtain ⟨v1, hv1⟩ : ∃ w, vaL p c.cats = w := ⟨_, rfl⟩
        have hW : prtW c i = (!v1 || (decide (q ≠ -1) && (!w1 || decide (p ≠ labG c q) || tkn c q i))) := by rw [prtW, hgd, hw1, hv1]
        rw [hw1] at hr1
        have hlt : w1 = true → 0 ≤ q := fun z => (isG_lt (hw1.trans z)).1
        have hge : w1 = false → ¬ (0 ≤ q ∧ q < c.gl.length) := fun z => isG_no (hw1.trans z)
        refine x_region ?_
        refine s_val rfl (v_fieldAddr rfl Tryz.underlying29 rfl Tryz.sizeOf25 rfl (by first | exact Nat.zero_add _ | rfl)) ?_
        refine s_val rfl (v_load Tryz.isAgg25 rfl (cell_own rfl)) ?_
        refine s_val rfl (v_move rfl) ?_
        refine s_val rfl (v_idxA Tryz.underlying25 Tryz.sizeOf146 rfl hga rfl rfl hi1 (by first | exact Nat.zero_add _ | rfl)) ?_
        refine s_val rfl (v_loadAgg Tryz.isAgg146 Tryz.sizeOf146 rfl hc.weak rfl) ?_
        refine s_do rfl (d_allocA Tryz.zeroValue146) ?_
        rintro _ _ ⟨bx, rfl, rfl⟩
        refine s_do0 (d_storeAll Tryz.sizeOf146 rfl rfl rfl rfl rfl) ?_
        rintro _ _ rfl
        refine x_nil (n_then (x_seq (x_seq (x_region ?_))))
        refine s_val rfl (v_fieldAddr rfl Tryz.underlying146 rfl Tryz.sizeOf3 rfl (by first | exact Nat.zero_add _ | rfl)) ?_
        refine s_val rfl (v_load Tryz.isAgg3 rfl (cell_own rfl)) ?_
        refine s_val rfl (v_fieldAddr rfl Tryz.underlying29 rfl Tryz.sizeOf3 rfl (by first | exact Nat.zero_add _ | rfl)) ?_
        refine s_val rfl (v_load Tryz.isAgg3 rfl (cell_own rfl)) ?_
        refine s_do rfl (d_call Tryz.call294 rfl (rlValid_spec W0 _ p c.cats)) ?_
        rintro _ B_ ⟨rfl, hB_⟩
        obtain rfl := hB_.symm
        rw [hv1]
        refine s_val rfl (v_not rfl) (s_val rfl (v_move rfl) ?_)
        refine s_or rfl rfl rfl ?_ ?_
        · intro g7_7
          refine s_no rfl rfl rfl rfl (s_no rfl rfl rfl rfl (s_no rfl rfl rfl rfl (s_nou rfl rfl rfl (s_nou rfl rfl rfl (s_nou rfl rfl rfl (s_nou rfl rfl rfl (s_nou rfl rfl rfl (s_no rfl rfl rfl rfl (s_val rfl (v_pick_t rfl rfl) (x_nil (n_then (x_ift rfl (x_seq (x_region (s_val rfl (v_move rfl) (s_val rfl (v_assign rfl) (s_val rfl (v_assign rfl) (x_nil (n_then (x_ret (r_then (r_block (r_then ?_)))))))))))))))))))))))
          refine r_then (r_block (r_then (x_done (.inl rfl) (.cons (r_tmp rfl) (.cons (r_tmp rfl) .nil)) ?_)))
          rw [hbad (by rw [hW]; simp_all)]
          exact ⟨_, ⟨_, rfl, rfl⟩, inferInstance⟩
        · intro g7_7
          refine s_val rfl (v_fieldAddr rfl Tryz.underlying146 rfl Tryz.sizeOf3 rfl (by first | exact Nat.zero_add _ | rfl)) ?_
          refine s_yes rfl rfl (s_val rfl (v_load Tryz.isAgg3 rfl (cell_own rfl)) ?_)
          refine s_yes rfl rfl (s_val rfl (v_neq rfl rfl) (s_yes rfl rfl (s_val rfl (v_move rfl) ?_)))
          refine s_and rfl rfl rfl ?_ ?_
          · intro g7_11
            refine s_val rfl (v_loadAll Tryz.isAgg29 Tryz.sizeOf29 rfl rfl) ?_
            refine s_yes rfl rfl ?_
            refine s_val rfl (v_fieldAddr rfl Tryz.underlying146 rfl Tryz.sizeOf3 rfl (by first | exact Nat.zero_add _ | rfl)) ?_
            refine s_yes rfl rfl (s_val rfl (v_load Tryz.isAgg3 rfl (cell_own rfl)) ?_)
            refine s_yes rfl rfl (s_do rfl (d_call Tryz.call190 rfl (rcIsG_spec W0 _ c q)) ?_)
            rintro _ B_ ⟨rfl, hB_⟩
            obtain rfl := hB_.symm
            rw [hw1]
            refine s_yes rfl rfl (s_val rfl (v_not rfl) (s_yes rfl rfl (s_val rfl (v_pick_t rfl rfl) (s_val rfl (v_pick_f rfl rfl) (x_nil (n_then ?_))))))
            refine x_if rfl ?_ ?_
            · intro c7
              refine x_seq (x_region (s_val rfl (v_move rfl) (s_val rfl (v_assign rfl) (s_val rfl (v_assign rfl) (x_nil (n_then (x_ret (r_then (r_block (r_then (r_then (r_block (r_then (x_done (.inl rfl) (.cons (r_tmp rfl) (.cons (r_tmp rfl) .nil)) ?_))))))))))))))
              rw [hbad (by rw [hW]; simp_all)]
              exact ⟨_, ⟨_, rfl, rfl⟩, inferInstance⟩
            · intro c7
              refine x_skip (n_then ?_)
              refine x_cut (fun _ : Unit => v1 = true ∧ (q = -1 ∨ (w1 = true ∧ p = labG c q))) (fun _ => [(1, .pointer (some ⟨b1, 0, none⟩)), (4, .int .i64 i), (5, .pointer (some ⟨bx, 0, none⟩))]) (fun _ => pt bx (cob (pairV (p, q)) 146) :: pt b1 (cfO c) :: R) ?_ ?_
              · skip
                refine x_seq ?_
                have hv2 : v1 = true := by simp_all
                have hq2 : q = -1 ∨ w1 = true := by
                  by_cases z : q = -1
                  · exact .inl z
                  · right; simp_all
                refine x_draw [(b1, 0, cfgV c), (bx, 0, pairV (p, q)), (g1, o1 + j1 * 3, vs1)] 15 mixed rfl (sc_own (sc_own (sc_cons (hcv1 _) sc_end))) (fun hS => ?_)
                refine d_take 0 rfl rfl (by kernel_rfl) (by kernel_rfl) (by kernel_rfl) rfl hS (v_fieldAddr rfl Tryz.underlying146 rfl Tryz.sizeOf3 rfl (by first | exact Nat.zero_add _ | rfl)) ?_
                refine d_take 1 rfl rfl (by kernel_rfl) (by kernel_rfl) (by kernel_rfl) rfl hS (v_load Tryz.isAgg3 rfl (by first | exact cell_sc0 (k := 0) rfl rfl | exact cell_sc0 (k := 1) rfl rfl | exact cell_sc0 (k := 2) rfl rfl | exact cell_sc0 (k := 3) rfl rfl)) ?_
                refine d_take 2 rfl rfl (by kernel_rfl) (by kernel_rfl) (by kernel_rfl) rfl hS (v_geq rfl rfl) ?_
                refine d_take 3 rfl rfl (by kernel_rfl) (by kernel_rfl) (by kernel_rfl) rfl hS (v_move rfl) ?_
                refine x_split (t := 45) rfl ?_ ?_
                · intro g9_4
                  obtain rfl : w1 = true := by
                    rcases hq2 with z | z
                    · exact absurd z (by omega)
                    · exact z
                  obtain ⟨ha1, hq1, hj1, u1, rfl, hl1⟩ := hr1 rfl
                  refine d_take 4 rfl rfl (by kernel_rfl) (by kernel_rfl) (by kernel_rfl) rfl hS (v_fieldAddr rfl Tryz.underlying146 rfl Tryz.sizeOf3 rfl (by first | exact Nat.zero_add _ | rfl)) ?_
                  refine d_take 5 rfl rfl (by kernel_rfl) (by kernel_rfl) (by kernel_rfl) rfl hS (v_load Tryz.isAgg3 rfl (by first | exact cell_sc0 (k := 0) rfl rfl | exact cell_sc0 (k := 1) rfl rfl | exact cell_sc0 (k := 2) rfl rfl | exact cell_sc0 (k := 3) rfl rfl)) ?_
                  refine d_take 6 rfl rfl (by kernel_rfl) (by kernel_rfl) (by kernel_rfl) rfl hS (v_fieldAddr rfl Tryz.underlying29 rfl Tryz.sizeOf23 rfl (by first | exact Nat.zero_add _ | rfl)) ?_
                  refine d_take 7 rfl rfl (by kernel_rfl) (by kernel_rfl) (by kernel_rfl) rfl hS (v_load Tryz.isAgg23 rfl (by first | exact cell_sc0 (k := 0) rfl rfl | exact cell_sc0 (k := 1) rfl rfl | exact cell_sc0 (k := 2) rfl rfl | exact cell_sc0 (k := 3) rfl rfl)) ?_
                  refine d_take 8 rfl rfl (by kernel_rfl) (by kernel_rfl) (by kernel_rfl) rfl hS (v_fieldAddr rfl Tryz.underlying146 rfl Tryz.sizeOf3 rfl (by first | exact Nat.zero_add _ | rfl)) ?_
                  refine d_take 9 rfl rfl (by kernel_rfl) (by kernel_rfl) (by kernel_rfl) rfl hS (v_load Tryz.isAgg3 rfl (by first | exact cell_sc0 (k := 0) rfl rfl | exact cell_sc0 (k := 1) rfl rfl | exact cell_sc0 (k := 2) rfl rfl | exact cell_sc0 (k := 3) rfl rfl)) ?_
                  refine d_take 10 rfl rfl (by kernel_rfl) (by kernel_rfl) (by kernel_rfl) rfl hS (v_idxA Tryz.underlying23 Tryz.sizeOf85 rfl ha1 rfl hq1 hj1 (by first | exact Nat.zero_add _ | rfl)) ?_
                  refine d_take 11 rfl rfl (by kernel_rfl) (by kernel_rfl) (by kernel_rfl) rfl hS (v_fieldAddr rfl Tryz.underlying85 rfl Tryz.sizeOf3 rfl (by first | exact Nat.zero_add _ | rfl)) ?_
                  refine d_take 12 rfl rfl (by kernel_rfl) (by kernel_rfl) (by kernel_rfl) rfl hS (v_load Tryz.isAgg3 rfl (cell_sc (k := 2) (j := 0) rfl rfl)) ?_
                  refine d_take 13 rfl rfl (by kernel_rfl) (by kernel_rfl) (by kernel_rfl) rfl hS (v_neq rfl rfl) ?_
                  refine d_take 14 rfl rfl (by kernel_rfl) (by kernel_rfl) (by kernel_rfl) rfl hS (v_pick_t rfl rfl) ?_
                  refine d_done (by kernel_rfl) ?_; clear hS
                  refine n_then ?_
                  refine x_if rfl ?_ ?_
                  · intro c9
                    refine x_seq (x_region (s_val rfl (v_move rfl) (s_val rfl (v_assign rfl) (s_val rfl (v_assign rfl) (x_nil (n_then (x_ret (r_then (x_done (.inl rfl) (.cons (r_tmp rfl) (.cons (r_tmp rfl) .nil)) ?_)))))))))
                    rw [hbad (by rw [hW, hv2, hl1, decide_eq_true (show p ≠ u1.1 by omega)]; simp_all)]
                    exact ⟨_, ⟨_, rfl, rfl⟩, inferInstance⟩
                  · intro c9
                    refine x_skip (n_then ?_)
                    refine mid_intro () ?_ ?_ ?_
                    · refine ⟨hv2, ?_⟩
                      first
                        | (left; rcases hq2 with z | z
                           · exact z
                           · exact absurd (hlt z) (by omega))
                        | exact .inr ⟨rfl, by rw [hl1]; omega⟩
                    · repeat (first | exact sub_nil | refine sub_cons rfl ?_)
                    · exact inferInstance
                · intro g9_4
                  refine d_skip 4 rfl rfl (by kernel_rfl) (by kernel_rfl) (by kernel_rfl) rfl hS ?_
                  refine d_skip 5 rfl rfl (by kernel_rfl) (by kernel_rfl) (by kernel_rfl) rfl hS ?_
                  refine d_skip 6 rfl rfl (by kernel_rfl) (by kernel_rfl) (by kernel_rfl) rfl hS ?_
                  refine d_skip 7 rfl rfl (by kernel_rfl) (by kernel_rfl) (by kernel_rfl) rfl hS ?_
                  refine d_skip 8 rfl rfl (by kernel_rfl) (by kernel_rfl) (by kernel_rfl) rfl hS ?_
                  refine d_skip 9 rfl rfl (by kernel_rfl) (by kernel_rfl) (by kernel_rfl) rfl hS ?_
                  refine d_skip 10 rfl rfl (by kernel_rfl) (by kernel_rfl) (by kernel_rfl) rfl hS ?_
                  refine d_skip 11 rfl rfl (by kernel_rfl) (by kernel_rfl) (by kernel_rfl) rfl hS ?_
                  refine d_skip 12 rfl rfl (by kernel_rfl) (by kernel_rfl) (by kernel_rfl) rfl hS ?_
                  refine d_skip 13 rfl rfl (by kernel_rfl) (by kernel_rfl) (by kernel_rfl) rfl hS ?_
                  refine d_take 14 rfl rfl (by kernel_rfl) (by kernel_rfl) (by kernel_rfl) rfl hS (v_pick_f rfl rfl) ?_
                  refine d_done (by kernel_rfl) ?_; clear hS
                  refine n_then (x_iff rfl (x_skip (n_then ?_)))
                  refine mid_intro () ?_ ?_ ?_
                  · refine ⟨hv2, ?_⟩
                    first
                      | (left; rcases hq2 with z | z
                         · exact z
                         · exact absurd (hlt z) (by omega))
                      | exact .inr ⟨rfl, by rw [hl1]; omega⟩
                  · repeat (first | exact sub_nil | refine sub_cons rfl ?_)
                  · exact inferInstance
              · intro _ ⟨hv2, hcut⟩
                rw [hv2, show (!true) = false from rfl, Bool.false_or] at hW
                refine x_seq (x_region (s_val rfl (v_assign rfl) (x_nil (n_then (x_block ?_)))))
                refine x_loop (fun k : Nat => k ≤ i ∧ ∀ j, j < k → 0 ≤ q → (c.pl.getD j (0, 0)).2 ≠ q) (fun k => [(1, .pointer (some ⟨b1, 0, none⟩)), (4, .int .i64 i), (5, .pointer (some ⟨bx, 0, none⟩)), (6, .int .i64 k)]) (fun _ => pt bx (cob (pairV (p, q)) 146) :: pt b1 (cfO c) :: R) (fun k => i - k) 0 ?_ ?_ ?_ ?_
                · exact ⟨Nat.zero_le _, fun j hj => absurd hj (Nat.not_lt_zero _)⟩
                · repeat (first | exact sub_nil | refine sub_cons rfl ?_)
                · exact inferInstance
                · intro k ⟨hk, hK⟩
                  refine x_seq (x_seq (x_region (s_val rfl (v_move rfl) (s_val rfl (v_move rfl) (s_val rfl (v_lss rfl rfl) (x_nil (n_then ?_)))))))
                  refine x_if rfl ?_ ?_
                  · intro c12
                    refine x_skip (n_then (x_seq (x_block (x_seq ?_))))
                    have hk1 : k < c.pl.length := by omega
                    obtain ⟨g2, o2, hga2, hc2⟩ := (h.p []).at_ hk1
                    obtain ⟨⟨p2, q2⟩, hx2⟩ : ∃ x, c.pl[k] = x := ⟨_, rfl⟩
                    have hgd2 : c.pl.getD k (0, 0) = (p2, q2) := by simp [List.getD, hk1, hx2]
                    have htk : q2 = q → tkn c q i = true := fun z => tkn_yes (j := k) (by omega) hk1 (by rw [hx2]; exact z)
                    rw [hx2] at hc2
                    refine x_draw [(b1, 0, cfgV c), (bx, 0, pairV (p, q)), (g2, o2 + k * 2, pairV (p2, q2))] 14 mixed rfl (sc_own (sc_own (sc_cons hc2.weak sc_end))) (fun hS => ?_)
                    refine d_take 0 rfl rfl (by kernel_rfl) (by kernel_rfl) (by kernel_rfl) rfl hS (v_fieldAddr rfl Tryz.underlying146 rfl Tryz.sizeOf3 rfl (by first | exact Nat.zero_add _ | rfl)) ?_
                    refine d_take 1 rfl rfl (by kernel_rfl) (by kernel_rfl) (by kernel_rfl) rfl hS (v_load Tryz.isAgg3 rfl (by first | exact cell_sc0 (k := 0) rfl rfl | exact cell_sc0 (k := 1) rfl rfl | exact cell_sc0 (k := 2) rfl rfl | exact cell_sc0 (k := 3) rfl rfl | exact cell_sc0 (k := 4) rfl rfl)) ?_
                    refine d_take 2 rfl rfl (by kernel_rfl) (by kernel_rfl) (by kernel_rfl) rfl hS (v_geq rfl rfl) ?_
                    refine d_take 3 rfl rfl (by kernel_rfl) (by kernel_rfl) (by kernel_rfl) rfl hS (v_move rfl) ?_
                    refine x_split (t := 66) rfl ?_ ?_
                    · intro g14_4
                      refine d_take 4 rfl rfl (by kernel_rfl) (by kernel_rfl) (by kernel_rfl) rfl hS (v_fieldAddr rfl Tryz.underlying29 rfl Tryz.sizeOf25 rfl (by first | exact Nat.zero_add _ | rfl)) ?_
                      refine d_take 5 rfl rfl (by kernel_rfl) (by kernel_rfl) (by kernel_rfl) rfl hS (v_load Tryz.isAgg25 rfl (by first | exact cell_sc0 (k := 0) rfl rfl | exact cell_sc0 (k := 1) rfl rfl | exact cell_sc0 (k := 2) rfl rfl | exact cell_sc0 (k := 3) rfl rfl | exact cell_sc0 (k := 4) rfl rfl)) ?_
                      refine d_take 6 rfl rfl (by kernel_rfl) (by kernel_rfl) (by kernel_rfl) rfl hS (v_move rfl) ?_
                      refine d_take 7 rfl rfl (by kernel_rfl) (by kernel_rfl) (by kernel_rfl) rfl hS (v_idxA Tryz.underlying25 Tryz.sizeOf146 rfl hga2 rfl rfl hk1 (by first | exact Nat.zero_add _ | rfl)) ?_
                      refine d_take 8 rfl rfl (by kernel_rfl) (by kernel_rfl) (by kernel_rfl) rfl hS (v_fieldAddr rfl Tryz.underlying146 rfl Tryz.sizeOf3 rfl (by first | exact Nat.zero_add _ | rfl)) ?_
                      refine d_take 9 rfl rfl (by kernel_rfl) (by kernel_rfl) (by kernel_rfl) rfl hS (v_load Tryz.isAgg3 rfl (cell_sc (k := 2) (j := 1) rfl rfl)) ?_
                      refine d_take 10 rfl rfl (by kernel_rfl) (by kernel_rfl) (by kernel_rfl) rfl hS (v_fieldAddr rfl Tryz.underlying146 rfl Tryz.sizeOf3 rfl (by first | exact Nat.zero_add _ | rfl)) ?_
                      refine d_take 11 rfl rfl (by kernel_rfl) (by kernel_rfl) (by kernel_rfl) rfl hS (v_load Tryz.isAgg3 rfl (by first | exact cell_sc0 (k := 0) rfl rfl | exact cell_sc0 (k := 1) rfl rfl | exact cell_sc0 (k := 2) rfl rfl | exact cell_sc0 (k := 3) rfl rfl | exact cell_sc0 (k := 4) rfl rfl)) ?_
                      refine d_take 12 rfl rfl (by kernel_rfl) (by kernel_rfl) (by kernel_rfl) rfl hS (v_eql rfl rfl) ?_
                      refine d_take 13 rfl rfl (by kernel_rfl) (by kernel_rfl) (by kernel_rfl) rfl hS (v_pick_t rfl rfl) ?_
                      refine d_done (by kernel_rfl) ?_; clear hS
                      refine n_then ?_
                      refine x_if rfl ?_ ?_
                      · intro c14
                        refine x_seq (x_region (s_val rfl (v_move rfl) (s_val rfl (v_assign rfl) (s_val rfl (v_assign rfl) (x_nil (n_then (x_ret (r_block (r_then (r_then (r_block (r_block (r_then (r_then (r_block (r_then (x_done (.inl rfl) (.cons (r_tmp rfl) (.cons (r_tmp rfl) .nil)) ?_)))))))))))))))))
                        have hz : w1 = true := by
                          rcases hcut with z | z
                          · omega
                          · exact z.1
                        rw [hbad (by rw [hW, htk (by omega), decide_eq_true (by omega)]; simp)]
                        exact ⟨_, ⟨_, rfl, rfl⟩, inferInstance⟩
                      · intro c14
                        refine x_skip (n_block (n_then (x_region (s_val rfl (v_move rfl) ?_))))
                        refine s_val rfl (v_add rfl rfl (by first | exact w64 (by omega) | rfl)) ?_
                        refine s_val rfl (v_assign rfl) (x_nil (n_then ?_))
                        refine inv_intro (k + 1) ?_ ?_ ?_ ?_
                        · refine ⟨by omega, fun j hj hq0 => ?_⟩
                          rcases Nat.lt_or_ge j k with z | z
                          · exact hK j z hq0
                          · rw [show j = k by omega, hgd2]
                            dsimp only
                            omega
                        · omega
                        · repeat (first | exact sub_nil | refine sub_cons rfl ?_)
                        · exact inferInstance
                    · intro g14_4
                      refine d_skip 4 rfl rfl (by kernel_rfl) (by kernel_rfl) (by kernel_rfl) rfl hS ?_
                      refine d_skip 5 rfl rfl (by kernel_rfl) (by kernel_rfl) (by kernel_rfl) rfl hS ?_
                      refine d_skip 6 rfl rfl (by kernel_rfl) (by kernel_rfl) (by kernel_rfl) rfl hS ?_
                      refine d_skip 7 rfl rfl (by kernel_rfl) (by kernel_rfl) (by kernel_rfl) rfl hS ?_
                      refine d_skip 8 rfl rfl (by kernel_rfl) (by kernel_rfl) (by kernel_rfl) rfl hS ?_
                      refine d_skip 9 rfl rfl (by kernel_rfl) (by kernel_rfl) (by kernel_rfl) rfl hS ?_
                      refine d_skip 10 rfl rfl (by kernel_rfl) (by kernel_rfl) (by kernel_rfl) rfl hS ?_
                      refine d_skip 11 rfl rfl (by kernel_rfl) (by kernel_rfl) (by kernel_rfl) rfl hS ?_
                      refine d_skip 12 rfl rfl (by kernel_rfl) (by kernel_rfl) (by kernel_rfl) rfl hS ?_
                      refine d_take 13 rfl rfl (by kernel_rfl) (by kernel_rfl) (by kernel_rfl) rfl hS (v_pick_f rfl rfl) ?_
                      refine d_done (by kernel_rfl) ?_; clear hS
                      refine n_then (x_iff rfl (x_skip (n_block (n_then (x_region (s_val rfl (v_move rfl) ?_))))))
                      refine s_val rfl (v_add rfl rfl (by first | exact w64 (by omega) | rfl)) ?_
                      refine s_val rfl (v_assign rfl) (x_nil (n_then ?_))
                      refine inv_intro (k + 1) ?_ ?_ ?_ ?_
                      · refine ⟨by omega, fun j hj hq0 => ?_⟩
                        rcases Nat.lt_or_ge j k with z | z
                        · exact hK j z hq0
                        · rw [show j = k by omega, hgd2]
                          dsimp only
                          omega
                      · omega
                      · repeat (first | exact sub_nil | refine sub_cons rfl ?_)
                      · exact inferInstance
                  · intro c12
                    refine x_exit (e_then (e_then (e_block (n_block (n_then (x_region (s_val rfl (v_move rfl) ?_)))))))
                    refine s_val rfl (v_add rfl rfl (by first | exact w64 (by omega) | rfl)) ?_
                    refine s_val rfl (v_assign rfl) (x_nil (n_then ?_))
                    refine inv_intro (i + 1) ?_ ?_ ?_ ?_
                    · refine ⟨by omega, hgood ?_⟩
                      rw [hW]
                      rcases hcut with z | ⟨z1, z2⟩
                      · rw [z]; rfl
                      · rw [z1, tkn_no (fun j hj => hK j (by omega) (hlt z1)), decide_eq_false (by omega : ¬ p ≠ labG c q)]
                        simp
                    · omega
                    · repeat (first | exact sub_nil | refine sub_cons rfl ?_)
                    · exact inferInstance
          · intro g7_11
            refine s_no rfl rfl rfl rfl (s_no rfl rfl rfl rfl (s_no rfl rfl rfl rfl (s_no rfl rfl rfl rfl (s_yes rfl rfl (s_val rfl (v_pick_f rfl rfl) (s_val rfl (v_pick_f rfl rfl) (x_nil (n_then (x_iff rfl (x_skip (n_then ?_)))))))))))
            refine x_cut (fun _ : Unit => v1 = true ∧ (q = -1 ∨ (w1 = true ∧ p = labG c q))) (fun _ => [(1, .pointer (some ⟨b1, 0, none⟩)), (4, .int .i64 i), (5, .pointer (some ⟨bx, 0, none⟩))]) (fun _ => pt bx (cob (pairV (p, q)) 146) :: pt b1 (cfO c) :: R) ?_ ?_
            · skip
              refine x_seq ?_
              have hv2 : v1 = true := by simp_all
              have hq2 : q = -1 ∨ w1 = true := by
                by_cases z : q = -1
                · exact .inl z
                · right; simp_all
              refine x_draw [(b1, 0, cfgV c), (bx, 0, pairV (p, q)), (g1, o1 + j1 * 3, vs1)] 15 mixed rfl (sc_own (sc_own (sc_cons (hcv1 _) sc_end))) (fun hS => ?_)
              refine d_take 0 rfl rfl (by kernel_rfl) (by kernel_rfl) (by kernel_rfl) rfl hS (v_fieldAddr rfl Tryz.underlying146 rfl Tryz.sizeOf3 rfl (by first | exact Nat.zero_add _ | rfl)) ?_
              refine d_take 1 rfl rfl (by kernel_rfl) (by kernel_rfl) (by kernel_rfl) rfl hS (v_load Tryz.isAgg3 rfl (by first | exact cell_sc0 (k := 0) rfl rfl | exact cell_sc0 (k := 1) rfl rfl | exact cell_sc0 (k := 2) rfl rfl | exact cell_sc0 (k := 3) rfl rfl)) ?_
              refine d_take 2 rfl rfl (by kernel_rfl) (by kernel_rfl) (by kernel_rfl) rfl hS (v_geq rfl rfl) ?_
              refine d_take 3 rfl rfl (by kernel_rfl) (by kernel_rfl) (by kernel_rfl) rfl hS (v_move rfl) ?_
              refine x_split (t := 45) rfl ?_ ?_
              · intro g9_4
                obtain rfl : w1 = true := by
                  rcases hq2 with z | z
                  · exact absurd z (by omega)
                  · exact z
                obtain ⟨ha1, hq1, hj1, u1, rfl, hl1⟩ := hr1 rfl
                refine d_take 4 rfl rfl (by kernel_rfl) (by kernel_rfl) (by kernel_rfl) rfl hS (v_fieldAddr rfl Tryz.underlying146 rfl Tryz.sizeOf3 rfl (by first | exact Nat.zero_add _ | rfl)) ?_
                refine d_take 5 rfl rfl (by kernel_rfl) (by kernel_rfl) (by kernel_rfl) rfl hS (v_load Tryz.isAgg3 rfl (by first | exact cell_sc0 (k := 0) rfl rfl | exact cell_sc0 (k := 1) rfl rfl | exact cell_sc0 (k := 2) rfl rfl | exact cell_sc0 (k := 3) rfl rfl)) ?_
                refine d_take 6 rfl rfl (by kernel_rfl) (by kernel_rfl) (by kernel_rfl) rfl hS (v_fieldAddr rfl Tryz.underlying29 rfl Tryz.sizeOf23 rfl (by first | exact Nat.zero_add _ | rfl)) ?_
                refine d_take 7 rfl rfl (by kernel_rfl) (by kernel_rfl) (by kernel_rfl) rfl hS (v_load Tryz.isAgg23 rfl (by first | exact cell_sc0 (k := 0) rfl rfl | exact cell_sc0 (k := 1) rfl rfl | exact cell_sc0 (k := 2) rfl rfl | exact cell_sc0 (k := 3) rfl rfl)) ?_
                refine d_take 8 rfl rfl (by kernel_rfl) (by kernel_rfl) (by kernel_rfl) rfl hS (v_fieldAddr rfl Tryz.underlying146 rfl Tryz.sizeOf3 rfl (by first | exact Nat.zero_add _ | rfl)) ?_
                refine d_take 9 rfl rfl (by kernel_rfl) (by kernel_rfl) (by kernel_rfl) rfl hS (v_load Tryz.isAgg3 rfl (by first | exact cell_sc0 (k := 0) rfl rfl | exact cell_sc0 (k := 1) rfl rfl | exact cell_sc0 (k := 2) rfl rfl | exact cell_sc0 (k := 3) rfl rfl)) ?_
                refine d_take 10 rfl rfl (by kernel_rfl) (by kernel_rfl) (by kernel_rfl) rfl hS (v_idxA Tryz.underlying23 Tryz.sizeOf85 rfl ha1 rfl hq1 hj1 (by first | exact Nat.zero_add _ | rfl)) ?_
                refine d_take 11 rfl rfl (by kernel_rfl) (by kernel_rfl) (by kernel_rfl) rfl hS (v_fieldAddr rfl Tryz.underlying85 rfl Tryz.sizeOf3 rfl (by first | exact Nat.zero_add _ | rfl)) ?_
                refine d_take 12 rfl rfl (by kernel_rfl) (by kernel_rfl) (by kernel_rfl) rfl hS (v_load Tryz.isAgg3 rfl (cell_sc (k := 2) (j := 0) rfl rfl)) ?_
                refine d_take 13 rfl rfl (by kernel_rfl) (by kernel_rfl) (by kernel_rfl) rfl hS (v_neq rfl rfl) ?_
                refine d_take 14 rfl rfl (by kernel_rfl) (by kernel_rfl) (by kernel_rfl) rfl hS (v_pick_t rfl rfl) ?_
                refine d_done (by kernel_rfl) ?_; clear hS
                refine n_then ?_
                refine x_if rfl ?_ ?_
                · intro c9
                  refine x_seq (x_region (s_val rfl (v_move rfl) (s_val rfl (v_assign rfl) (s_val rfl (v_assign rfl) (x_nil (n_then (x_ret (r_then (x_done (.inl rfl) (.cons (r_tmp rfl) (.cons (r_tmp rfl) .nil)) ?_)))))))))
                  rw [hbad (by rw [hW, hv2, hl1, decide_eq_true (show p ≠ u1.1 by omega)]; simp_all)]
                  exact ⟨_, ⟨_, rfl, rfl⟩, inferInstance⟩
                · intro c9
                  refine x_skip (n_then ?_)
                  refine mid_intro () ?_ ?_ ?_
                  · refine ⟨hv2, ?_⟩
                    first
                      | (left; rcases hq2 with z | z
                         · exact z
                         · exact absurd (hlt z) (by omega))
                      | exact .inr ⟨rfl, by rw [hl1]; omega⟩
                  · repeat (first | exact sub_nil | refine sub_cons rfl ?_)
                  · exact inferInstance
              · intro g9_4
                refine d_skip 4 rfl rfl (by kernel_rfl) (by kernel_rfl) (by kernel_rfl) rfl hS ?_
                refine d_skip 5 rfl rfl (by kernel_rfl) (by kernel_rfl) (by kernel_rfl) rfl hS ?_
                refine d_skip 6 rfl rfl (by kernel_rfl) (by kernel_rfl) (by kernel_rfl) rfl hS ?_
                refine d_skip 7 rfl rfl (by kernel_rfl) (by kernel_rfl) (by kernel_rfl) rfl hS ?_
                refine d_skip 8 rfl rfl (by kernel_rfl) (by kernel_rfl) (by kernel_rfl) rfl hS ?_
                refine d_skip 9 rfl rfl (by kernel_rfl) (by kernel_rfl) (by kernel_rfl) rfl hS ?_
                refine d_skip 10 rfl rfl (by kernel_rfl) (by kernel_rfl) (by kernel_rfl) rfl hS ?_
                refine d_skip 11 rfl rfl (by kernel_rfl) (by kernel_rfl) (by kernel_rfl) rfl hS ?_
                refine d_skip 12 rfl rfl (by kernel_rfl) (by kernel_rfl) (by kernel_rfl) rfl hS ?_
                refine d_skip 13 rfl rfl (by kernel_rfl) (by kernel_rfl) (by kernel_rfl) rfl hS ?_
                refine d_take 14 rfl rfl (by kernel_rfl) (by kernel_rfl) (by kernel_rfl) rfl hS (v_pick_f rfl rfl) ?_
                refine d_done (by kernel_rfl) ?_; clear hS
                refine n_then (x_iff rfl (x_skip (n_then ?_)))
                refine mid_intro () ?_ ?_ ?_
                · refine ⟨hv2, ?_⟩
                  first
                    | (left; rcases hq2 with z | z
                       · exact z
                       · exact absurd (hlt z) (by omega))
                    | exact .inr ⟨rfl, by rw [hl1]; omega⟩
                · repeat (first | exact sub_nil | refine sub_cons rfl ?_)
                · exact inferInstance
            · intro _ ⟨hv2, hcut⟩
              rw [hv2, show (!true) = false from rfl, Bool.false_or] at hW
              refine x_seq (x_region (s_val rfl (v_assign rfl) (x_nil (n_then (x_block ?_)))))
              refine x_loop (fun k : Nat => k ≤ i ∧ ∀ j, j < k → 0 ≤ q → (c.pl.getD j (0, 0)).2 ≠ q) (fun k => [(1, .pointer (some ⟨b1, 0, none⟩)), (4, .int .i64 i), (5, .pointer (some ⟨bx, 0, none⟩)), (6, .int .i64 k)]) (fun _ => pt bx (cob (pairV (p, q)) 146) :: pt b1 (cfO c) :: R) (fun k => i - k) 0 ?_ ?_ ?_ ?_
              · exact ⟨Nat.zero_le _, fun j hj => absurd hj (Nat.not_lt_zero _)⟩
              · repeat (first | exact sub_nil | refine sub_cons rfl ?_)
              · exact inferInstance
              · intro k ⟨hk, hK⟩
                refine x_seq (x_seq (x_region (s_val rfl (v_move rfl) (s_val rfl (v_move rfl) (s_val rfl (v_lss rfl rfl) (x_nil (n_then ?_)))))))
                refine x_if rfl ?_ ?_
                · intro c12
                  refine x_skip (n_then (x_seq (x_block (x_seq ?_))))
                  have hk1 : k < c.pl.length := by omega
                  obtain ⟨g2, o2, hga2, hc2⟩ := (h.p []).at_ hk1
                  obtain ⟨⟨p2, q2⟩, hx2⟩ : ∃ x, c.pl[k] = x := ⟨_, rfl⟩
                  have hgd2 : c.pl.getD k (0, 0) = (p2, q2) := by simp [List.getD, hk1, hx2]
                  have htk : q2 = q → tkn c q i = true := fun z => tkn_yes (j := k) (by omega) hk1 (by rw [hx2]; exact z)
                  rw [hx2] at hc2
                  refine x_draw [(b1, 0, cfgV c), (bx, 0, pairV (p, q)), (g2, o2 + k * 2, pairV (p2, q2))] 14 mixed rfl (sc_own (sc_own (sc_cons hc2.weak sc_end))) (fun hS => ?_)
                  refine d_take 0 rfl rfl (by kernel_rfl) (by kernel_rfl) (by kernel_rfl) rfl hS (v_fieldAddr rfl Tryz.underlying146 rfl Tryz.sizeOf3 rfl (by first | exact Nat.zero_add _ | rfl)) ?_
                  refine d_take 1 rfl rfl (by kernel_rfl) (by kernel_rfl) (by kernel_rfl) rfl hS (v_load Tryz.isAgg3 rfl (by first | exact cell_sc0 (k := 0) rfl rfl | exact cell_sc0 (k := 1) rfl rfl | exact cell_sc0 (k := 2) rfl rfl | exact cell_sc0 (k := 3) rfl rfl | exact cell_sc0 (k := 4) rfl rfl)) ?_
                  refine d_take 2 rfl rfl (by kernel_rfl) (by kernel_rfl) (by kernel_rfl) rfl hS (v_geq rfl rfl) ?_
                  refine d_take 3 rfl rfl (by kernel_rfl) (by kernel_rfl) (by kernel_rfl) rfl hS (v_move rfl) ?_
                  refine x_split (t := 66) rfl ?_ ?_
                  · intro g14_4
                    refine d_take 4 rfl rfl (by kernel_rfl) (by kernel_rfl) (by kernel_rfl) rfl hS (v_fieldAddr rfl Tryz.underlying29 rfl Tryz.sizeOf25 rfl (by first | exact Nat.zero_add _ | rfl)) ?_
                    refine d_take 5 rfl rfl (by kernel_rfl) (by kernel_rfl) (by kernel_rfl) rfl hS (v_load Tryz.isAgg25 rfl (by first | exact cell_sc0 (k := 0) rfl rfl | exact cell_sc0 (k := 1) rfl rfl | exact cell_sc0 (k := 2) rfl rfl | exact cell_sc0 (k := 3) rfl rfl | exact cell_sc0 (k := 4) rfl rfl)) ?_
                    refine d_take 6 rfl rfl (by kernel_rfl) (by kernel_rfl) (by kernel_rfl) rfl hS (v_move rfl) ?_
                    refine d_take 7 rfl rfl (by kernel_rfl) (by kernel_rfl) (by kernel_rfl) rfl hS (v_idxA Tryz.underlying25 Tryz.sizeOf146 rfl hga2 rfl rfl hk1 (by first | exact Nat.zero_add _ | rfl)) ?_
                    refine d_take 8 rfl rfl (by kernel_rfl) (by kernel_rfl) (by kernel_rfl) rfl hS (v_fieldAddr rfl Tryz.underlying146 rfl Tryz.sizeOf3 rfl (by first | exact Nat.zero_add _ | rfl)) ?_
                    refine d_take 9 rfl rfl (by kernel_rfl) (by kernel_rfl) (by kernel_rfl) rfl hS (v_load Tryz.isAgg3 rfl (cell_sc (k := 2) (j := 1) rfl rfl)) ?_
                    refine d_take 10 rfl rfl (by kernel_rfl) (by kernel_rfl) (by kernel_rfl) rfl hS (v_fieldAddr rfl Tryz.underlying146 rfl Tryz.sizeOf3 rfl (by first | exact Nat.zero_add _ | rfl)) ?_
                    refine d_take 11 rfl rfl (by kernel_rfl) (by kernel_rfl) (by kernel_rfl) rfl hS (v_load Tryz.isAgg3 rfl (by first | exact cell_sc0 (k := 0) rfl rfl | exact cell_sc0 (k := 1) rfl rfl | exact cell_sc0 (k := 2) rfl rfl | exact cell_sc0 (k := 3) rfl rfl | exact cell_sc0 (k := 4) rfl rfl)) ?_
                    refine d_take 12 rfl rfl (by kernel_rfl) (by kernel_rfl) (by kernel_rfl) rfl hS (v_eql rfl rfl) ?_
                    refine d_take 13 rfl rfl (by kernel_rfl) (by kernel_rfl) (by kernel_rfl) rfl hS (v_pick_t rfl rfl) ?_
                    refine d_done (by kernel_rfl) ?_; clear hS
                    refine n_then ?_
                    refine x_if rfl ?_ ?_
                    · intro c14
                      refine x_seq (x_region (s_val rfl (v_move rfl) (s_val rfl (v_assign rfl) (s_val rfl (v_assign rfl) (x_nil (n_then (x_ret (r_block (r_then (r_then (r_block (r_block (r_then (r_then (r_block (r_then (x_done (.inl rfl) (.cons (r_tmp rfl) (.cons (r_tmp rfl) .nil)) ?_)))))))))))))))))
                      have hz : w1 = true := by
                        rcases hcut with z | z
                        · omega
                        · exact z.1
                      rw [hbad (by rw [hW, htk (by omega), decide_eq_true (by omega)]; simp)]
                      exact ⟨_, ⟨_, rfl, rfl⟩, inferInstance⟩
                    · intro c14
                      refine x_skip (n_block (n_then (x_region (s_val rfl (v_move rfl) ?_))))
                      refine s_val rfl (v_add rfl rfl (by first | exact w64 (by omega) | rfl)) ?_
                      refine s_val rfl (v_assign rfl) (x_nil (n_then ?_))
                      refine inv_intro (k + 1) ?_ ?_ ?_ ?_
                      · refine ⟨by omega, fun j hj hq0 => ?_⟩
                        rcases Nat.lt_or_ge j k with z | z
                        · exact hK j z hq0
                        · rw [show j = k by omega, hgd2]
                          dsimp only
                          omega
                      · omega
                      · repeat (first | exact sub_nil | refine sub_cons rfl ?_)
                      · exact inferInstance
                  · intro g14_4
                    refine d_skip 4 rfl rfl (by kernel_rfl) (by kernel_rfl) (by kernel_rfl) rfl hS ?_
                    refine d_skip 5 rfl rfl (by kernel_rfl) (by kernel_rfl) (by kernel_rfl) rfl hS ?_
                    refine d_skip 6 rfl rfl (by kernel_rfl) (by kernel_rfl) (by kernel_rfl) rfl hS ?_
                    refine d_skip 7 rfl rfl (by kernel_rfl) (by kernel_rfl) (by kernel_rfl) rfl hS ?_
                    refine d_skip 8 rfl rfl (by kernel_rfl) (by kernel_rfl) (by kernel_rfl) rfl hS ?_
                    refine d_skip 9 rfl rfl (by kernel_rfl) (by kernel_rfl) (by kernel_rfl) rfl hS ?_
                    refine d_skip 10 rfl rfl (by kernel_rfl) (by kernel_rfl) (by kernel_rfl) rfl hS ?_
                    refine d_skip 11 rfl rfl (by kernel_rfl) (by kernel_rfl) (by kernel_rfl) rfl hS ?_
                    refine d_skip 12 rfl rfl (by kernel_rfl) (by kernel_rfl) (by kernel_rfl) rfl hS ?_
                    refine d_take 13 rfl rfl (by kernel_rfl) (by kernel_rfl) (by kernel_rfl) rfl hS (v_pick_f rfl rfl) ?_
                    refine d_done (by kernel_rfl) ?_; clear hS
                    refine n_then (x_iff rfl (x_skip (n_block (n_then (x_region (s_val rfl (v_move rfl) ?_))))))
                    refine s_val rfl (v_add rfl rfl (by first | exact w64 (by omega) | rfl)) ?_
                    refine s_val rfl (v_assign rfl) (x_nil (n_then ?_))
                    refine inv_intro (k + 1) ?_ ?_ ?_ ?_
                    · refine ⟨by omega, fun j hj hq0 => ?_⟩
                      rcases Nat.lt_or_ge j k with z | z
                      · exact hK j z hq0
                      · rw [show j = k by omega, hgd2]
                        dsimp only
                        omega
                    · omega
                    · repeat (first | exact sub_nil | refine sub_cons rfl ?_)
                    · exact inferInstance
                · intro c12
                  refine x_exit (e_then (e_then (e_block (n_block (n_then (x_region (s_val rfl (v_move rfl) ?_)))))))
                  refine s_val rfl (v_add rfl rfl (by first | exact w64 (by omega) | rfl)) ?_
                  refine s_val rfl (v_assign rfl) (x_nil (n_then ?_))
                  refine inv_intro (i + 1) ?_ ?_ ?_ ?_
                  · refine ⟨by omega, hgood ?_⟩
                    rw [hW]
                    rcases hcut with z | ⟨z1, z2⟩
                    · rw [z]; rfl
                    · rw [z1, tkn_no (fun j hj => hK j (by omega) (hlt z1)), decide_eq_false (by omega : ¬ p ≠ labG c q)]
                      simp
                  · omega
                  · repeat (first | exact sub_nil | refine sub_cons rfl ?_)
                  · exact inferInstance
      · intro c4
        refine x_exit (e_then (e_then (e_block (n_then (x_seq (x_region (s_val rfl (v_assign rfl) (s_val rfl (v_assign rfl) (x_nil (n_then (x_ret (x_done (.inl rfl) (.cons (r_tmp rfl) (.cons (r_tmp rfl) .nil)) ?_))))))))))))
        obtain rfl : i = c.pl.length := by omega
        rw [poW, decide_eq_false (by omega), Bool.false_or, anyW_no hI]
        exact ⟨_, ⟨0, rfl, rfl⟩, inferInstance⟩
theorem riW_no {c : Cfg} (h : riW c = false) : c.nl.length ≤ 4 := by
  simp only [riW, Bool.or_eq_false_iff, decide_eq_false_iff_not] at h; omega
theorem rcCheck_spec (W0 : World) (R : List HP) (c : Cfg) (h : CfOk W0 c) :
    Spec Tryz.prog W0 75 [.agg (cfgV c).toArray] R (fun v B => ∃ at_, v = .tuple #[.int .i64 (ckE c), .int .i64 at_] ∧ B = R) := by
  obtain ⟨w1, hw1⟩ : ∃ w, isG c c.gate = w := ⟨_, rfl⟩
  have hG : gtW c = if c.gate = -1 then decide (c.quota ≠ 0) else !(w1 && decide (0 ≤ c.quota ∧ c.quota ≤ 64)) := by rw [gtW, hw1]
  obtain ⟨x0, hx0⟩ : ∃ x, ckE c = x := ⟨_, rfl⟩
  obtain ⟨x1, hx1⟩ : ∃ x, grW c = x := ⟨_, rfl⟩
  obtain ⟨x2, hx2⟩ : ∃ x, raW c = x := ⟨_, rfl⟩
  obtain ⟨x3, hx3⟩ : ∃ x, poW c = x := ⟨_, rfl⟩
  obtain ⟨x4, hx4⟩ : ∃ x, riW c = x := ⟨_, rfl⟩
  obtain ⟨x5, hx5⟩ : ∃ x, slW c = x := ⟨_, rfl⟩
  obtain ⟨x6, hx6⟩ : ∃ x, gtW c = x := ⟨_, rfl⟩
  have hC : x0 = if c.cats < 0 ∨ 8 < c.cats then 12 else if x1 then 13 else if x2 then 14 else if x3 then 15 else if x4 then 16 else if x5 then 17 else if x6 then 18 else if 32 < ndK c c.gl.length then 19 else 0 := by rw [← hx0, ckE, hx1, hx2, hx3, hx4, hx5, hx6]
  rw [hx6] at hG
  rw [hx0]
  refine spec_body Tryz.func75 Tryz.ntmps75 rfl rfl ?_
  refine x_seq (x_region (s_do rfl (d_boxA rfl) ?_))
  rintro _ _ ⟨b1, rfl, rfl⟩
  refine s_val rfl (v_assign rfl) (s_val rfl (v_assign rfl) (x_nil (n_then (x_seq (x_seq (x_region ?_))))))
  refine s_val rfl (v_fieldAddr rfl Tryz.underlying29 rfl Tryz.sizeOf3 rfl (by first | exact Nat.zero_add _ | rfl)) ?_
  refine s_val rfl (v_load Tryz.isAgg3 rfl (cell_own rfl)) ?_
  refine s_val rfl (v_lss rfl rfl) (s_val rfl (v_move rfl) ?_)
  refine s_or rfl rfl rfl ?_ ?_
  · intro g1_4
    refine s_no rfl rfl rfl rfl (s_no rfl rfl rfl rfl (s_val rfl (v_pick_t rfl rfl) (x_nil (n_then (x_ift rfl (x_seq (x_region (s_val rfl (v_assign rfl) (s_val rfl (v_assign rfl) (x_nil (n_then (x_ret (r_then (x_done (.inl rfl) (.cons (r_tmp rfl) (.cons (r_tmp rfl) .nil)) ?_))))))))))))))
    rw [hC, if_pos (by omega)]
    exact ⟨_, ⟨0, rfl, rfl⟩, inferInstance⟩
  · intro g1_4
    refine s_val rfl (v_fieldAddr rfl Tryz.underlying29 rfl Tryz.sizeOf3 rfl (by first | exact Nat.zero_add _ | rfl)) ?_
    refine s_yes rfl rfl (s_val rfl (v_load Tryz.isAgg3 rfl (cell_own rfl)) ?_)
    refine s_yes rfl rfl (s_val rfl (v_gtr rfl rfl) (s_val rfl (v_pick_f rfl rfl) (x_nil (n_then ?_))))
    refine x_if rfl ?_ ?_
    · intro c1
      refine x_seq (x_region (s_val rfl (v_assign rfl) (s_val rfl (v_assign rfl) (x_nil (n_then (x_ret (r_then (x_done (.inl rfl) (.cons (r_tmp rfl) (.cons (r_tmp rfl) .nil)) ?_))))))))
      rw [hC, if_pos (by omega)]
      exact ⟨_, ⟨0, rfl, rfl⟩, inferInstance⟩
    · intro c1
      refine x_skip (n_then (x_seq ?_))
      rw [if_neg (by omega)] at hC
      refine x_region (s_val rfl (v_loadAll Tryz.isAgg29 Tryz.sizeOf29 rfl rfl) ?_)
      refine s_do rfl (d_call Tryz.call185 rfl (rcGuests_spec W0 _ c h)) ?_
      rintro _ B_ ⟨r1, rfl, hB_⟩
      obtain rfl := hB_.symm
      rw [hx1]
      refine s_val rfl (v_move rfl) (s_val rfl (v_extract rfl rfl) (s_val rfl (v_extract rfl rfl) (s_val rfl (v_assign rfl) (s_val rfl (v_assign rfl) (x_nil (n_then (x_seq (x_seq (x_region (s_val rfl (v_move rfl) (x_nil (n_then ?_))))))))))))
      refine x_if rfl ?_ ?_
      · intro c4
        refine x_seq (x_region (s_val rfl (v_move rfl) (s_val rfl (v_assign rfl) (s_val rfl (v_assign rfl) (x_nil (n_then (x_ret (r_then (x_done (.inl rfl) (.cons (r_tmp rfl) (.cons (r_tmp rfl) .nil)) ?_)))))))))
        rw [hC, if_pos (by simpa using c4)]
        exact ⟨_, ⟨r1, rfl, rfl⟩, inferInstance⟩
      · intro c4
        refine x_skip (n_then (x_seq ?_))
        rw [if_neg (by simpa using c4)] at hC
        refine x_region (s_val rfl (v_loadAll Tryz.isAgg29 Tryz.sizeOf29 rfl rfl) ?_)
        refine s_do rfl (d_call Tryz.call186 rfl (rcRanges_spec W0 _ c h)) ?_
        rintro _ B_ ⟨r2, rfl, hB_⟩
        obtain rfl := hB_.symm
        rw [hx2]
        refine s_val rfl (v_move rfl) (s_val rfl (v_extract rfl rfl) (s_val rfl (v_extract rfl rfl) (s_val rfl (v_assign rfl) (s_val rfl (v_assign rfl) (x_nil (n_then (x_seq (x_seq (x_region (s_val rfl (v_move rfl) (x_nil (n_then ?_))))))))))))
        refine x_if rfl ?_ ?_
        · intro c7
          refine x_seq (x_region (s_val rfl (v_move rfl) (s_val rfl (v_assign rfl) (s_val rfl (v_assign rfl) (x_nil (n_then (x_ret (r_then (x_done (.inl rfl) (.cons (r_tmp rfl) (.cons (r_tmp rfl) .nil)) ?_)))))))))
          rw [hC, if_pos (by simpa using c7)]
          exact ⟨_, ⟨r2, rfl, rfl⟩, inferInstance⟩
        · intro c7
          refine x_skip (n_then (x_seq ?_))
          rw [if_neg (by simpa using c7)] at hC
          refine x_region (s_val rfl (v_loadAll Tryz.isAgg29 Tryz.sizeOf29 rfl rfl) ?_)
          refine s_do rfl (d_call Tryz.call187 rfl (rcPorts_spec W0 _ c h)) ?_
          rintro _ B_ ⟨r3, rfl, hB_⟩
          obtain rfl := hB_.symm
          rw [hx3]
          refine s_val rfl (v_move rfl) (s_val rfl (v_extract rfl rfl) (s_val rfl (v_extract rfl rfl) (s_val rfl (v_assign rfl) (s_val rfl (v_assign rfl) (x_nil (n_then (x_seq (x_seq (x_region (s_val rfl (v_move rfl) (x_nil (n_then ?_))))))))))))
          refine x_if rfl ?_ ?_
          · intro c10
            refine x_seq (x_region (s_val rfl (v_move rfl) (s_val rfl (v_assign rfl) (s_val rfl (v_assign rfl) (x_nil (n_then (x_ret (r_then (x_done (.inl rfl) (.cons (r_tmp rfl) (.cons (r_tmp rfl) .nil)) ?_)))))))))
            rw [hC, if_pos (by simpa using c10)]
            exact ⟨_, ⟨r3, rfl, rfl⟩, inferInstance⟩
          · intro c10
            refine x_skip (n_then (x_seq ?_))
            rw [if_neg (by simpa using c10)] at hC
            refine x_region (s_val rfl (v_loadAll Tryz.isAgg29 Tryz.sizeOf29 rfl rfl) ?_)
            refine s_do rfl (d_call Tryz.call188 rfl (rcRings_spec W0 _ c h)) ?_
            rintro _ B_ ⟨r4, rfl, hB_⟩
            obtain rfl := hB_.symm
            rw [hx4]
            refine s_val rfl (v_move rfl) (s_val rfl (v_extract rfl rfl) (s_val rfl (v_extract rfl rfl) (s_val rfl (v_assign rfl) (s_val rfl (v_assign rfl) (x_nil (n_then (x_seq (x_seq (x_region (s_val rfl (v_move rfl) (x_nil (n_then ?_))))))))))))
            refine x_if rfl ?_ ?_
            · intro c13
              refine x_seq (x_region (s_val rfl (v_move rfl) (s_val rfl (v_assign rfl) (s_val rfl (v_assign rfl) (x_nil (n_then (x_ret (r_then (x_done (.inl rfl) (.cons (r_tmp rfl) (.cons (r_tmp rfl) .nil)) ?_)))))))))
              rw [hC, if_pos (by simpa using c13)]
              exact ⟨_, ⟨r4, rfl, rfl⟩, inferInstance⟩
            · intro c13
              refine x_skip (n_then (x_seq ?_))
              rw [if_neg (by simpa using c13)] at hC
              refine x_region (s_val rfl (v_loadAll Tryz.isAgg29 Tryz.sizeOf29 rfl rfl) ?_)
              refine s_do rfl (d_call Tryz.call189 rfl (rcSlots_spec W0 _ c h)) ?_
              rintro _ B_ ⟨r5, rfl, hB_⟩
              obtain rfl := hB_.symm
              rw [hx5]
              refine s_val rfl (v_move rfl) (s_val rfl (v_extract rfl rfl) (s_val rfl (v_extract rfl rfl) (s_val rfl (v_assign rfl) (s_val rfl (v_assign rfl) (x_nil (n_then (x_seq (x_seq (x_region (s_val rfl (v_move rfl) (x_nil (n_then ?_))))))))))))
              refine x_if rfl ?_ ?_
              · intro c16
                refine x_seq (x_region (s_val rfl (v_move rfl) (s_val rfl (v_assign rfl) (s_val rfl (v_assign rfl) (x_nil (n_then (x_ret (r_then (x_done (.inl rfl) (.cons (r_tmp rfl) (.cons (r_tmp rfl) .nil)) ?_)))))))))
                rw [hC, if_pos (by simpa using c16)]
                exact ⟨_, ⟨r5, rfl, rfl⟩, inferInstance⟩
              · intro c16
                refine x_skip (n_then (x_seq (x_seq ?_)))
                rw [if_neg (by simpa using c16)] at hC
                refine x_region ?_
                refine s_val rfl (v_fieldAddr rfl Tryz.underlying29 rfl Tryz.sizeOf3 rfl (by first | exact Nat.zero_add _ | rfl)) ?_
                refine s_val rfl (v_load Tryz.isAgg3 rfl (cell_own rfl)) ?_
                refine s_val rfl (v_neq rfl rfl) (s_val rfl (v_move rfl) ?_)
                refine s_and rfl rfl rfl ?_ ?_
                · intro g18_4
                  refine s_val rfl (v_loadAll Tryz.isAgg29 Tryz.sizeOf29 rfl rfl) ?_
                  refine s_yes rfl rfl ?_
                  refine s_val rfl (v_fieldAddr rfl Tryz.underlying29 rfl Tryz.sizeOf3 rfl (by first | exact Nat.zero_add _ | rfl)) ?_
                  refine s_yes rfl rfl (s_val rfl (v_load Tryz.isAgg3 rfl (cell_own rfl)) ?_)
                  refine s_yes rfl rfl (s_do rfl (d_call Tryz.call190 rfl (rcIsG_spec W0 _ c c.gate)) ?_)
                  rintro _ B_ ⟨rfl, hB_⟩
                  obtain rfl := hB_.symm
                  rw [hw1]
                  refine s_yes rfl rfl (s_val rfl (v_not rfl) (s_val rfl (v_pick_t rfl rfl) (s_val rfl (v_move rfl) ?_)))
                  refine s_or rfl rfl rfl ?_ ?_
                  · intro g18_11
                    refine s_no rfl rfl rfl rfl (s_no rfl rfl rfl rfl (s_val rfl (v_pick_t rfl rfl) (s_val rfl (v_move rfl) (s_no rfl rfl rfl rfl (s_no rfl rfl rfl rfl (s_no rfl rfl rfl rfl (s_val rfl (v_pick_t rfl rfl) (s_val rfl (v_move rfl) (s_no rfl rfl rfl rfl (s_no rfl rfl rfl rfl (s_no rfl rfl rfl rfl (s_no rfl rfl rfl rfl (s_nou rfl rfl rfl (s_nou rfl rfl rfl (s_nou rfl rfl rfl (s_no rfl rfl rfl rfl (s_val rfl (v_pick_t rfl rfl) (x_nil (n_then (x_ift rfl (x_seq (x_region (s_val rfl (v_assign rfl) ?_)))))))))))))))))))))))
                    refine s_val rfl (v_assign rfl) (x_nil (n_then (x_ret (r_then (x_done (.inl rfl) (.cons (r_tmp rfl) (.cons (r_tmp rfl) .nil)) ?_)))))
                    have hz : x6 = true := by
                      rw [hG]; split
                      · exact decide_eq_true (by first | omega | simp_all)
                      · first
                          | (rw [decide_eq_false (by omega), Bool.and_false]; rfl)
                          | simp_all
                    rw [hC, hz]
                    exact ⟨_, ⟨0, rfl, rfl⟩, inferInstance⟩
                  · intro g18_11
                    refine s_val rfl (v_fieldAddr rfl Tryz.underlying29 rfl Tryz.sizeOf3 rfl (by first | exact Nat.zero_add _ | rfl)) ?_
                    refine s_yes rfl rfl (s_val rfl (v_load Tryz.isAgg3 rfl (cell_own rfl)) ?_)
                    refine s_yes rfl rfl (s_val rfl (v_lss rfl rfl) (s_val rfl (v_pick_f rfl rfl) (s_val rfl (v_move rfl) ?_)))
                    refine s_or rfl rfl rfl ?_ ?_
                    · intro g18_16
                      refine s_no rfl rfl rfl rfl (s_no rfl rfl rfl rfl (s_val rfl (v_pick_t rfl rfl) (s_val rfl (v_move rfl) (s_no rfl rfl rfl rfl (s_no rfl rfl rfl rfl (s_no rfl rfl rfl rfl (s_no rfl rfl rfl rfl (s_nou rfl rfl rfl (s_nou rfl rfl rfl (s_nou rfl rfl rfl (s_no rfl rfl rfl rfl (s_val rfl (v_pick_t rfl rfl) (x_nil (n_then (x_ift rfl (x_seq (x_region (s_val rfl (v_assign rfl) (s_val rfl (v_assign rfl) (x_nil (n_then (x_ret (r_then ?_)))))))))))))))))))))))
                      refine x_done (.inl rfl) (.cons (r_tmp rfl) (.cons (r_tmp rfl) .nil)) ?_
                      have hz : x6 = true := by
                        rw [hG]; split
                        · exact decide_eq_true (by first | omega | simp_all)
                        · first
                            | (rw [decide_eq_false (by omega), Bool.and_false]; rfl)
                            | simp_all
                      rw [hC, hz]
                      exact ⟨_, ⟨0, rfl, rfl⟩, inferInstance⟩
                    · intro g18_16
                      refine s_val rfl (v_fieldAddr rfl Tryz.underlying29 rfl Tryz.sizeOf3 rfl (by first | exact Nat.zero_add _ | rfl)) ?_
                      refine s_yes rfl rfl (s_val rfl (v_load Tryz.isAgg3 rfl (cell_own rfl)) ?_)
                      refine s_yes rfl rfl (s_val rfl (v_gtr rfl rfl) (s_val rfl (v_pick_f rfl rfl) (s_val rfl (v_move rfl) ?_)))
                      refine s_or rfl rfl rfl ?_ ?_
                      · intro g18_21
                        refine s_no rfl rfl rfl rfl (s_no rfl rfl rfl rfl (s_no rfl rfl rfl rfl (s_nou rfl rfl rfl (s_nou rfl rfl rfl (s_nou rfl rfl rfl (s_no rfl rfl rfl rfl (s_val rfl (v_pick_t rfl rfl) (x_nil (n_then (x_ift rfl (x_seq (x_region (s_val rfl (v_assign rfl) (s_val rfl (v_assign rfl) (x_nil (n_then (x_ret (r_then (x_done (.inl rfl) (.cons (r_tmp rfl) (.cons (r_tmp rfl) .nil)) ?_)))))))))))))))))))
                        have hz : x6 = true := by
                          rw [hG]; split
                          · exact decide_eq_true (by first | omega | simp_all)
                          · first
                              | (rw [decide_eq_false (by omega), Bool.and_false]; rfl)
                              | simp_all
                        rw [hC, hz]
                        exact ⟨_, ⟨0, rfl, rfl⟩, inferInstance⟩
                      · intro g18_21
                        refine s_val rfl (v_fieldAddr rfl Tryz.underlying29 rfl Tryz.sizeOf3 rfl (by first | exact Nat.zero_add _ | rfl)) ?_
                        refine s_yes rfl rfl (s_val rfl (v_load Tryz.isAgg3 rfl (cell_own rfl)) ?_)
                        refine s_yes rfl rfl (s_val rfl (v_eql rfl rfl) (s_yes rfl rfl (s_val rfl (v_move rfl) ?_)))
                        refine s_and rfl rfl rfl ?_ ?_
                        · intro g18_25
                          refine s_val rfl (v_fieldAddr rfl Tryz.underlying29 rfl Tryz.sizeOf3 rfl (by first | exact Nat.zero_add _ | rfl)) ?_
                          refine s_yes rfl rfl (s_val rfl (v_load Tryz.isAgg3 rfl (cell_own rfl)) ?_)
                          refine s_yes rfl rfl (s_val rfl (v_neq rfl rfl) (s_yes rfl rfl (s_val rfl (v_pick_t rfl rfl) (s_val rfl (v_pick_f rfl rfl) (x_nil (n_then ?_))))))
                          refine x_if rfl ?_ ?_
                          · intro c18
                            refine x_seq (x_region (s_val rfl (v_assign rfl) (s_val rfl (v_assign rfl) (x_nil (n_then (x_ret (r_then (x_done (.inl rfl) (.cons (r_tmp rfl) (.cons (r_tmp rfl) .nil)) ?_))))))))
                            have hz : x6 = true := by
                              rw [hG]; split
                              · exact decide_eq_true (by first | omega | simp_all)
                              · first
                                  | (rw [decide_eq_false (by omega), Bool.and_false]; rfl)
                                  | simp_all
                            rw [hC, hz]
                            exact ⟨_, ⟨0, rfl, rfl⟩, inferInstance⟩
                          · intro c18
                            refine x_skip (n_then (x_seq (x_seq ?_)))
                            have hz : x6 = false := by
                              rw [hG]; split
                              · exact decide_eq_false (by first | omega | simp_all)
                              · rw [decide_eq_true (by omega)]; simp_all
                            rw [hz] at hC
                            have hgr : grW c = false := by rw [hx1]; simpa using c4
                            have hri : riW c = false := by rw [hx4]; simpa using c13
                            obtain ⟨k1, k2, k3⟩ := grW_no hgr
                            refine x_region (s_val rfl (v_loadAll Tryz.isAgg29 Tryz.sizeOf29 rfl rfl) ?_)
                            refine s_do rfl (d_call Tryz.call191 rfl (rcNeed_spec W0 _ c h.g (fun g hg => (k3 g hg).2) (riW_no hri) k2)) ?_
                            rintro _ B_ ⟨rfl, hB_⟩
                            obtain rfl := hB_.symm
                            refine s_val rfl (v_gtr rfl rfl) (x_nil (n_then ?_))
                            refine x_if rfl ?_ ?_
                            · intro c20
                              refine x_seq (x_region (s_val rfl (v_assign rfl) (s_val rfl (v_assign rfl) (x_nil (n_then (x_ret (r_then (x_done (.inl rfl) (.cons (r_tmp rfl) (.cons (r_tmp rfl) .nil)) ?_))))))))
                              rw [hC, if_neg (by decide), if_pos (by omega)]
                              exact ⟨_, ⟨0, rfl, rfl⟩, inferInstance⟩
                            · intro c20
                              refine x_skip (n_then (x_seq (x_region (s_val rfl (v_assign rfl) (s_val rfl (v_assign rfl) (x_nil (n_then (x_ret (x_done (.inl rfl) (.cons (r_tmp rfl) (.cons (r_tmp rfl) .nil)) ?_)))))))))
                              rw [hC, if_neg (by decide), if_neg (by omega)]
                              exact ⟨_, ⟨0, rfl, rfl⟩, inferInstance⟩
                        · intro g18_25
                          refine s_no rfl rfl rfl rfl (s_no rfl rfl rfl rfl (s_yes rfl rfl (s_val rfl (v_pick_f rfl rfl) (s_val rfl (v_pick_f rfl rfl) (x_nil (n_then (x_iff rfl (x_skip (n_then (x_seq (x_seq ?_)))))))))))
                          have hz : x6 = false := by
                            rw [hG]; split
                            · exact decide_eq_false (by first | omega | simp_all)
                            · rw [decide_eq_true (by omega)]; simp_all
                          rw [hz] at hC
                          have hgr : grW c = false := by rw [hx1]; simpa using c4
                          have hri : riW c = false := by rw [hx4]; simpa using c13
                          obtain ⟨k1, k2, k3⟩ := grW_no hgr
                          refine x_region (s_val rfl (v_loadAll Tryz.isAgg29 Tryz.sizeOf29 rfl rfl) ?_)
                          refine s_do rfl (d_call Tryz.call191 rfl (rcNeed_spec W0 _ c h.g (fun g hg => (k3 g hg).2) (riW_no hri) k2)) ?_
                          rintro _ B_ ⟨rfl, hB_⟩
                          obtain rfl := hB_.symm
                          refine s_val rfl (v_gtr rfl rfl) (x_nil (n_then ?_))
                          refine x_if rfl ?_ ?_
                          · intro c20
                            refine x_seq (x_region (s_val rfl (v_assign rfl) (s_val rfl (v_assign rfl) (x_nil (n_then (x_ret (r_then (x_done (.inl rfl) (.cons (r_tmp rfl) (.cons (r_tmp rfl) .nil)) ?_))))))))
                            rw [hC, if_neg (by decide), if_pos (by omega)]
                            exact ⟨_, ⟨0, rfl, rfl⟩, inferInstance⟩
                          · intro c20
                            refine x_skip (n_then (x_seq (x_region (s_val rfl (v_assign rfl) (s_val rfl (v_assign rfl) (x_nil (n_then (x_ret (x_done (.inl rfl) (.cons (r_tmp rfl) (.cons (r_tmp rfl) .nil)) ?_)))))))))
                            rw [hC, if_neg (by decide), if_neg (by omega)]
                            exact ⟨_, ⟨0, rfl, rfl⟩, inferInstance⟩
                · intro g18_4
                  refine s_no rfl rfl rfl rfl (s_no rfl rfl rfl rfl (s_no rfl rfl rfl rfl (s_no rfl rfl rfl rfl (s_val rfl (v_pick_f rfl rfl) (s_val rfl (v_move rfl) (s_yes rfl rfl ?_))))))
                  refine s_val rfl (v_fieldAddr rfl Tryz.underlying29 rfl Tryz.sizeOf3 rfl (by first | exact Nat.zero_add _ | rfl)) ?_
                  refine s_yes rfl rfl (s_val rfl (v_load Tryz.isAgg3 rfl (cell_own rfl)) ?_)
                  refine s_yes rfl rfl (s_val rfl (v_lss rfl rfl) (s_val rfl (v_pick_f rfl rfl) (s_val rfl (v_move rfl) ?_)))
                  refine s_or rfl rfl rfl ?_ ?_
                  · intro g18_16
                    refine s_no rfl rfl rfl rfl (s_no rfl rfl rfl rfl (s_val rfl (v_pick_t rfl rfl) (s_val rfl (v_move rfl) (s_no rfl rfl rfl rfl (s_no rfl rfl rfl rfl (s_no rfl rfl rfl rfl (s_no rfl rfl rfl rfl (s_nou rfl rfl rfl (s_nou rfl rfl rfl (s_nou rfl rfl rfl (s_no rfl rfl rfl rfl (s_val rfl (v_pick_t rfl rfl) (x_nil (n_then (x_ift rfl (x_seq (x_region (s_val rfl (v_assign rfl) (s_val rfl (v_assign rfl) (x_nil (n_then (x_ret (r_then ?_)))))))))))))))))))))))
                    refine x_done (.inl rfl) (.cons (r_tmp rfl) (.cons (r_tmp rfl) .nil)) ?_
                    have hz : x6 = true := by
                      rw [hG]; split
                      · exact decide_eq_true (by first | omega | simp_all)
                      · first
                          | (rw [decide_eq_false (by omega), Bool.and_false]; rfl)
                          | simp_all
                    rw [hC, hz]
                    exact ⟨_, ⟨0, rfl, rfl⟩, inferInstance⟩
                  · intro g18_16
                    refine s_val rfl (v_fieldAddr rfl Tryz.underlying29 rfl Tryz.sizeOf3 rfl (by first | exact Nat.zero_add _ | rfl)) ?_
                    refine s_yes rfl rfl (s_val rfl (v_load Tryz.isAgg3 rfl (cell_own rfl)) ?_)
                    refine s_yes rfl rfl (s_val rfl (v_gtr rfl rfl) (s_val rfl (v_pick_f rfl rfl) (s_val rfl (v_move rfl) ?_)))
                    refine s_or rfl rfl rfl ?_ ?_
                    · intro g18_21
                      refine s_no rfl rfl rfl rfl (s_no rfl rfl rfl rfl (s_no rfl rfl rfl rfl (s_nou rfl rfl rfl (s_nou rfl rfl rfl (s_nou rfl rfl rfl (s_no rfl rfl rfl rfl (s_val rfl (v_pick_t rfl rfl) (x_nil (n_then (x_ift rfl (x_seq (x_region (s_val rfl (v_assign rfl) (s_val rfl (v_assign rfl) (x_nil (n_then (x_ret (r_then (x_done (.inl rfl) (.cons (r_tmp rfl) (.cons (r_tmp rfl) .nil)) ?_)))))))))))))))))))
                      have hz : x6 = true := by
                        rw [hG]; split
                        · exact decide_eq_true (by first | omega | simp_all)
                        · first
                            | (rw [decide_eq_false (by omega), Bool.and_false]; rfl)
                            | simp_all
                      rw [hC, hz]
                      exact ⟨_, ⟨0, rfl, rfl⟩, inferInstance⟩
                    · intro g18_21
                      refine s_val rfl (v_fieldAddr rfl Tryz.underlying29 rfl Tryz.sizeOf3 rfl (by first | exact Nat.zero_add _ | rfl)) ?_
                      refine s_yes rfl rfl (s_val rfl (v_load Tryz.isAgg3 rfl (cell_own rfl)) ?_)
                      refine s_yes rfl rfl (s_val rfl (v_eql rfl rfl) (s_yes rfl rfl (s_val rfl (v_move rfl) ?_)))
                      refine s_and rfl rfl rfl ?_ ?_
                      · intro g18_25
                        refine s_val rfl (v_fieldAddr rfl Tryz.underlying29 rfl Tryz.sizeOf3 rfl (by first | exact Nat.zero_add _ | rfl)) ?_
                        refine s_yes rfl rfl (s_val rfl (v_load Tryz.isAgg3 rfl (cell_own rfl)) ?_)
                        refine s_yes rfl rfl (s_val rfl (v_neq rfl rfl) (s_yes rfl rfl (s_val rfl (v_pick_t rfl rfl) (s_val rfl (v_pick_f rfl rfl) (x_nil (n_then ?_))))))
                        refine x_if rfl ?_ ?_
                        · intro c18
                          refine x_seq (x_region (s_val rfl (v_assign rfl) (s_val rfl (v_assign rfl) (x_nil (n_then (x_ret (r_then (x_done (.inl rfl) (.cons (r_tmp rfl) (.cons (r_tmp rfl) .nil)) ?_))))))))
                          have hz : x6 = true := by
                            rw [hG]; split
                            · exact decide_eq_true (by first | omega | simp_all)
                            · first
                                | (rw [decide_eq_false (by omega), Bool.and_false]; rfl)
                                | simp_all
                          rw [hC, hz]
                          exact ⟨_, ⟨0, rfl, rfl⟩, inferInstance⟩
                        · intro c18
                          refine x_skip (n_then (x_seq (x_seq ?_)))
                          have hz : x6 = false := by
                            rw [hG]; split
                            · exact decide_eq_false (by first | omega | simp_all)
                            · rw [decide_eq_true (by omega)]; simp_all
                          rw [hz] at hC
                          have hgr : grW c = false := by rw [hx1]; simpa using c4
                          have hri : riW c = false := by rw [hx4]; simpa using c13
                          obtain ⟨k1, k2, k3⟩ := grW_no hgr
                          refine x_region (s_val rfl (v_loadAll Tryz.isAgg29 Tryz.sizeOf29 rfl rfl) ?_)
                          refine s_do rfl (d_call Tryz.call191 rfl (rcNeed_spec W0 _ c h.g (fun g hg => (k3 g hg).2) (riW_no hri) k2)) ?_
                          rintro _ B_ ⟨rfl, hB_⟩
                          obtain rfl := hB_.symm
                          refine s_val rfl (v_gtr rfl rfl) (x_nil (n_then ?_))
                          refine x_if rfl ?_ ?_
                          · intro c20
                            refine x_seq (x_region (s_val rfl (v_assign rfl) (s_val rfl (v_assign rfl) (x_nil (n_then (x_ret (r_then (x_done (.inl rfl) (.cons (r_tmp rfl) (.cons (r_tmp rfl) .nil)) ?_))))))))
                            rw [hC, if_neg (by decide), if_pos (by omega)]
                            exact ⟨_, ⟨0, rfl, rfl⟩, inferInstance⟩
                          · intro c20
                            refine x_skip (n_then (x_seq (x_region (s_val rfl (v_assign rfl) (s_val rfl (v_assign rfl) (x_nil (n_then (x_ret (x_done (.inl rfl) (.cons (r_tmp rfl) (.cons (r_tmp rfl) .nil)) ?_)))))))))
                            rw [hC, if_neg (by decide), if_neg (by omega)]
                            exact ⟨_, ⟨0, rfl, rfl⟩, inferInstance⟩
                      · intro g18_25
                        refine s_no rfl rfl rfl rfl (s_no rfl rfl rfl rfl (s_yes rfl rfl (s_val rfl (v_pick_f rfl rfl) (s_val rfl (v_pick_f rfl rfl) (x_nil (n_then (x_iff rfl (x_skip (n_then (x_seq (x_seq ?_)))))))))))
                        have hz : x6 = false := by
                          rw [hG]; split
                          · exact decide_eq_false (by first | omega | simp_all)
                          · rw [decide_eq_true (by omega)]; simp_all
                        rw [hz] at hC
                        have hgr : grW c = false := by rw [hx1]; simpa using c4
                        have hri : riW c = false := by rw [hx4]; simpa using c13
                        obtain ⟨k1, k2, k3⟩ := grW_no hgr
                        refine x_region (s_val rfl (v_loadAll Tryz.isAgg29 Tryz.sizeOf29 rfl rfl) ?_)
                        refine s_do rfl (d_call Tryz.call191 rfl (rcNeed_spec W0 _ c h.g (fun g hg => (k3 g hg).2) (riW_no hri) k2)) ?_
                        rintro _ B_ ⟨rfl, hB_⟩
                        obtain rfl := hB_.symm
                        refine s_val rfl (v_gtr rfl rfl) (x_nil (n_then ?_))
                        refine x_if rfl ?_ ?_
                        · intro c20
                          refine x_seq (x_region (s_val rfl (v_assign rfl) (s_val rfl (v_assign rfl) (x_nil (n_then (x_ret (r_then (x_done (.inl rfl) (.cons (r_tmp rfl) (.cons (r_tmp rfl) .nil)) ?_))))))))
                          rw [hC, if_neg (by decide), if_pos (by omega)]
                          exact ⟨_, ⟨0, rfl, rfl⟩, inferInstance⟩
                        · intro c20
                          refine x_skip (n_then (x_seq (x_region (s_val rfl (v_assign rfl) (s_val rfl (v_assign rfl) (x_nil (n_then (x_ret (x_done (.inl rfl) (.cons (r_tmp rfl) (.cons (r_tmp rfl) .nil)) ?_)))))))))
                          rw [hC, if_neg (by decide), if_neg (by omega)]
                          exact ⟨_, ⟨0, rfl, rfl⟩, inferInstance⟩
theorem rcRight_spec (W0 : World) (R : List HP) (c : Cfg) (h : CfOk W0 c) :
    Spec Tryz.prog W0 94 [.agg (cfgV c).toArray] R (fun v B => v = .bool (rt c) ∧ B = R) := by
  refine spec_body Tryz.func94 Tryz.ntmps94 rfl rfl ?_
  refine x_seq (x_region (s_do rfl (d_boxA rfl) ?_))
  rintro _ _ ⟨b1, rfl, rfl⟩
  refine s_val rfl (v_assign rfl) (x_nil (n_then (x_seq (x_region (s_val rfl (v_loadAll Tryz.isAgg29 Tryz.sizeOf29 rfl rfl) ?_)))))
  refine s_do rfl (d_call Tryz.call75 rfl (rcCheck_spec W0 _ c h)) ?_
  rintro _ B_ ⟨at_, rfl, hB_⟩
  obtain rfl := hB_.symm
  refine s_val rfl (v_move rfl) (s_val rfl (v_extract rfl rfl) (s_val rfl (v_extract rfl rfl) (s_val rfl (v_assign rfl) (s_val rfl (v_assign rfl) (x_nil (n_then (x_seq (x_region (s_val rfl (v_move rfl) (s_val rfl (v_eql rfl rfl) (s_val rfl (v_assign rfl) (x_nil (n_then (x_ret (x_done (.inl rfl) (.cons (r_tmp rfl) .nil) ?_)))))))))))))))
  refine ⟨_, ⟨?_, rfl⟩, inferInstance⟩
  refine congrArg Value.bool ?_
  rw [Bool.eq_iff_iff, rt]; simp
end Go.Proofs.YtnidndllknffgaaGreat
namespace Go.Proofs.YtnidndllknffgaaGreat
set_option linter.unusedSimpArgs false
set_option linter.unusedVariables false
def glA (c : Cfg) (i : Nat) : Int × Int × Int := c.gl.getD i (0, 0, 0)
def bhK (c : Cfg) : Nat → Int
  | 0 => 0
  | i + 1 => bhK c i + ((glA c i).2.1 + (glA c i).2.2)
theorem ndK_bh (c : Cfg) : ∀ i, ndK c i = bhK c i + (c.nl.length : Int)
  | 0 => by rw [ndK, bhK, Int.zero_add]
  | i + 1 => by rw [ndK, bhK, ndK_bh c i, glA]; omega
def ownO (c : Cfg) (f : Int) : Option Nat := fsO (fun i => decide (f < bhK c (i + 1))) c.gl.length
def nFr (c : Cfg) : Nat := (ndK c c.gl.length).toNat
def ownM (b f : Int) : Option Nat → Int × Int
  | some i => (1, (i : Int))
  | none => (2, f - b)
def ownV (c : Cfg) (f : Int) : Int × Int := if rt c = true ∧ 0 ≤ f ∧ f < ndK c c.gl.length then ownM (bhK c c.gl.length) f (ownO c f) else (0, 0)
structure CfR (c : Cfg) : Prop where
  g1 : 1 ≤ c.gl.length
  g4 : c.gl.length ≤ 4
  gs : ∀ i, i < c.gl.length → 1 ≤ (glA c i).2.1 ∧ (glA c i).2.1 ≤ 8 ∧ 0 ≤ (glA c i).2.2 ∧ (glA c i).2.2 ≤ 8 - (glA c i).2.1
  nn : c.nl.length ≤ 4
  nd : 1 ≤ ndK c c.gl.length ∧ ndK c c.gl.length ≤ 32
theorem bhK_mono {c : Cfg} (h : ∀ i, i < c.gl.length → 1 ≤ (glA c i).2.1 ∧ (glA c i).2.1 ≤ 8 ∧ 0 ≤ (glA c i).2.2 ∧ (glA c i).2.2 ≤ 8 - (glA c i).2.1) : ∀ i, i ≤ c.gl.length → (i : Int) ≤ bhK c i ∧ bhK c i ≤ 8 * i
  | 0, _ => by simp [bhK]
  | i + 1, hi => by
    have := bhK_mono h i (by omega)
    have := h i (by omega)
    rw [bhK]; omega
theorem bhK_step {c : Cfg} (h : CfR c) {i : Nat} (hi : i < c.gl.length) : bhK c i < bhK c (i + 1) := by
  have := h.gs i hi
  rw [bhK]; omega
theorem bhK_le {c : Cfg} (h : CfR c) {i j : Nat} (hij : i ≤ j) (hj : j ≤ c.gl.length) : bhK c i ≤ bhK c j := by
  induction j with
  | zero => obtain rfl : i = 0 := by omega
            exact Int.le_refl _
  | succ j ih =>
    rcases Nat.lt_or_ge i (j + 1) with k | k
    · have := ih (by omega) (by omega)
      have := bhK_step h (i := j) (by omega)
      omega
    · obtain rfl : i = j + 1 := by omega
      exact Int.le_refl _
theorem cfR {c : Cfg} (h : rt c = true) : CfR c := by
  obtain ⟨_, _, k1, _, _, k2, _, _, k3⟩ := rt_yes h
  obtain ⟨g1, g4, gs⟩ := grW_no k1
  have hn : c.nl.length ≤ 4 := by
    simp only [riW, Bool.or_eq_false_iff, decide_eq_false_iff_not] at k2; omega
  have hg : ∀ i, i < c.gl.length → 1 ≤ (glA c i).2.1 ∧ (glA c i).2.1 ≤ 8 ∧ 0 ≤ (glA c i).2.2 ∧ (glA c i).2.2 ≤ 8 - (glA c i).2.1 := fun i hi => by
    have := (gs _ (List.getElem_mem hi)).2
    rwa [show glA c i = c.gl[i] by simp [glA, List.getD, hi]]
  have := bhK_mono hg c.gl.length (Nat.le_refl _)
  exact ⟨g1, g4, hg, hn, by rw [ndK_bh]; omega, k3⟩
theorem ownO_some {c : Cfg} (h : CfR c) {f : Int} {i : Nat} : (ownO c f = some i ↔ i < c.gl.length ∧ f < bhK c (i + 1) ∧ (0 < i → bhK c i ≤ f)) := by
  rw [ownO, fsO, List.find?_eq_some_iff_getElem]
  simp only [decide_eq_true_iff]
  constructor
  · rintro ⟨h1, k, hk, rfl, h2⟩
    rw [List.getElem_range] at h1 ⊢
    simp only [List.length_range] at hk
    refine ⟨hk, h1, fun h0 => ?_⟩
    have := h2 (k - 1) (by omega)
    simp only [List.getElem_range, Bool.not_eq_true', decide_eq_false_iff_not] at this
    rw [show k - 1 + 1 = k by omega] at this
    omega
  · rintro ⟨h1, h2, h3⟩
    refine ⟨h2, i, by simpa using h1, by simp, fun j hj => ?_⟩
    simp only [List.getElem_range, Bool.not_eq_true', decide_eq_false_iff_not]
    have := bhK_le h (i := j + 1) (j := i) (by omega) (by omega)
    have := h3 (by omega)
    omega
def seatO : Option Nat → Int × Bool
  | some i => ((i : Int), false)
  | none => (-1, false)
def poI (c : Cfg) (k : Nat) : Po := (List.range (nFr c)).map fun g => if g < k then seatO (ownO c g) else (-1, false)
theorem poI_len (c : Cfg) (k : Nat) : (poI c k).length = nFr c := by simp [poI]
theorem poI_at {c : Cfg} {k f : Nat} (hf : f < nFr c) : poA (poI c k) f = if f < k then seatO (ownO c f) else (-1, false) := by
  simp [poA, poI, List.getD, hf]
theorem poI_zero (c : Cfg) : poI c 0 = List.replicate (nFr c) (-1, false) := by
  apply List.ext_getElem
  · simp [poI]
  · intro i h1 h2; simp [poI]
theorem poI_some {c : Cfg} {k i : Nat} (hk : k < nFr c) (h : ownO c k = some i) : poI c (k + 1) = (poI c k).set k ((i : Int), false) := by
  apply List.ext_getElem
  · simp [poI]
  · intro j h1 h2
    rw [List.getElem_set]
    simp only [poI, List.getElem_map, List.getElem_range]
    by_cases e : k = j
    · subst e; simp [h, seatO]
    · rw [if_neg e]; congr 1; simp; omega
theorem poI_none {c : Cfg} {k : Nat} (h : ownO c k = none) : poI c (k + 1) = poI c k := by
  apply List.ext_getElem
  · simp [poI]
  · intro j h1 h2
    simp only [poI, List.getElem_map, List.getElem_range]
    by_cases e : j = k
    · subst e; simp [h, seatO]
    · congr 1; simp; omega
theorem poI_ok {c : Cfg} (h : CfR c) (k : Nat) : PoOk (poI c k) := ⟨by rw [poI_len, nFr]; have := h.nd; omega, fun f hf => by
  rw [poI_len] at hf
  rw [poI_at hf]
  split
  · cases e : ownO c f with
    | none => simp [seatO]
    | some i =>
      have := ((ownO_some h).1 e).1
      have := h.g4
      simp only [seatO]; omega
  · simp⟩
theorem nodup_le : ∀ {l m : List Nat}, l.Nodup → (∀ x ∈ l, x ∈ m) → l.length ≤ m.length
  | [], _, _, _ => Nat.zero_le _
  | x :: l, m, hd, h => by
    rw [List.nodup_cons] at hd
    have hx := h x (by simp)
    have := nodup_le (l := l) (m := m.erase x) hd.2 fun y hy => by
      have hne : y ≠ x := fun e => hd.1 (by rw [← e]; exact hy)
      rw [List.mem_erase_of_ne hne]
      exact h y (List.mem_cons_of_mem _ hy)
    rw [List.length_erase_of_mem hx] at this
    have := List.length_pos_of_mem hx
    rw [List.length_cons]; omega
theorem fre_poI {c : Cfg} (h : CfR c) {i : Nat} (hi : i < c.gl.length) : (glA c i).2.1 + (glA c i).2.2 ≤ ((fre (poI c (nFr c)) i).length : Int) := by
  obtain ⟨a, ha⟩ : ∃ a : Nat, bhK c i = (a : Int) := ⟨(bhK c i).toNat, by have := bhK_mono h.gs i (by omega); omega⟩
  have hg := h.gs i hi
  obtain ⟨n, hn⟩ : ∃ n : Nat, (glA c i).2.1 + (glA c i).2.2 = (n : Int) := ⟨((glA c i).2.1 + (glA c i).2.2).toNat, by omega⟩
  have hs : bhK c (i + 1) = (a : Int) + n := by rw [bhK, ha, hn]
  have hl := bhK_le h (i := i + 1) (j := c.gl.length) (by omega) (Nat.le_refl _)
  have hnd := ndK_bh c c.gl.length
  have hsub : ∀ x ∈ List.range' a n, x ∈ fre (poI c (nFr c)) i := fun x hx => by
    rw [List.mem_range'_1] at hx
    have hxn : x < nFr c := by rw [nFr]; omega
    rw [mem_fre, poI_len, poI_at hxn, if_pos hxn, (ownO_some h (i := i)).2 ⟨hi, by omega, fun _ => by omega⟩]
    exact ⟨hxn, rfl⟩
  have hd : (List.range' a n).Nodup := List.nodup_range' ..
  have := nodup_le hd hsub
  rw [List.length_range'] at this
  rw [hn]; omega
end Go.Proofs.YtnidndllknffgaaGreat
namespace Go.Proofs.YtnidndllknffgaaGreat
open Go.RowKit
set_option linter.unusedSimpArgs false
set_option linter.unusedVariables false
set_option maxRecDepth 20000
structure CfK (W0 : World) (c : Cfg) : Prop where
  ok : CfOk W0 c
  gc : c.gl.length ≤ c.gc
theorem need_of {c : Cfg} (h : CfR c) : (∀ g ∈ c.gl, 1 ≤ g.2.1 ∧ g.2.1 ≤ 8 ∧ 0 ≤ g.2.2 ∧ g.2.2 ≤ 8 - g.2.1) := fun g hg => by
  obtain ⟨i, hi, rfl⟩ := List.getElem_of_mem hg
  have := h.gs i hi
  rwa [show glA c i = c.gl[i] by simp [glA, List.getD, hi]] at this
def frN (c : Cfg) : Nat := if rt c then nFr c else 0
theorem frN_le (c : Cfg) : frN c ≤ 32 := by
  unfold frN; split
  · rename_i h; have := (cfR h).nd; rw [nFr]; omega
  · omega
theorem cfFrames_spec (W0 : World) (R : List HP) (c : Cfg) (h : CfOk W0 c) :
    Spec Tryz.prog W0 47 [.agg (cfgV c).toArray] R (fun v B => v = .int .i64 (frN c : Nat) ∧ B = R) := by
  refine spec_body Tryz.func47 Tryz.ntmps47 rfl rfl ?_
  refine x_seq (x_region (s_do rfl (d_boxA rfl) ?_))
  rintro _ _ ⟨b1, rfl, rfl⟩
  refine s_val rfl (v_assign rfl) (x_nil (n_then (x_seq (x_seq (x_region (s_val rfl (v_loadAll Tryz.isAgg29 Tryz.sizeOf29 rfl rfl) ?_))))))
  refine s_do rfl (d_call Tryz.call120 rfl (cfRight_spec W0 _ c h)) ?_
  rintro _ B_ ⟨rfl, hB_⟩
  obtain rfl := hB_.symm
  refine s_val rfl (v_not rfl) (x_nil (n_then ?_))
  refine x_if rfl ?_ ?_
  · intro c1
    refine x_seq (x_region (s_val rfl (v_assign rfl) (x_nil (n_then (x_ret (r_then (x_done (.inl rfl) (.cons (r_tmp rfl) .nil) ?_)))))))
    have hr : rt c = false := by simpa using c1
    rw [frN, hr]
    exact ⟨_, ⟨rfl, rfl⟩, inferInstance⟩
  · intro c1
    have hr : rt c = true := by simpa using c1
    have hR := cfR hr
    refine x_skip (n_then (x_seq (x_region (s_val rfl (v_loadAll Tryz.isAgg29 Tryz.sizeOf29 rfl rfl) ?_))))
    refine s_do rfl (d_call Tryz.call119 rfl (cfNeed_spec W0 _ c h.g (need_of hR) hR.nn hR.g4)) ?_
    rintro _ B_ ⟨rfl, hB_⟩
    obtain rfl := hB_.symm
    refine s_val rfl (v_assign rfl) (x_nil (n_then (x_ret (x_done (.inl rfl) (.cons (r_tmp rfl) .nil) ?_))))
    have hn : ((frN c : Nat) : Int) = ndK c c.gl.length := by
      have := hR.nd
      rw [frN, if_pos hr, nFr]; omega
    rw [hn]
    exact ⟨_, ⟨rfl, rfl⟩, inferInstance⟩
theorem cfBehind_spec (W0 : World) (R : List HP) (c : Cfg) (h : CfK W0 c) (hR : CfR c) (n : Nat) (hn : n ≤ c.gl.length) :
    Spec Tryz.prog W0 256 [.agg (cfgV c).toArray, .int .i64 n] R (fun v B => v = .int .i64 (bhK c n) ∧ B = R) := by
  have hgc := h.gc
  have hg4 := hR.g4
  refine spec_body Tryz.func256 Tryz.ntmps256 rfl rfl ?_
  refine x_seq (x_region (s_do rfl (d_boxA rfl) ?_))
  rintro _ _ ⟨b1, rfl, rfl⟩
  refine s_val rfl (v_assign rfl) (x_nil (n_then (x_seq (x_region (s_val rfl (v_assign rfl) (x_nil (n_then (x_seq (x_seq (x_region ?_))))))))))
  refine s_val rfl (v_fieldAddr rfl Tryz.underlying29 rfl Tryz.sizeOf23 rfl (by first | exact Nat.zero_add _ | rfl)) ?_
  refine s_val rfl (v_load Tryz.isAgg23 rfl (cell_own rfl)) ?_
  refine s_val rfl (v_move rfl) ?_
  refine s_val rfl (v_sliceH Tryz.underlying23 Tryz.sizeOf85 rfl rfl (h := n) rfl (by omega)) ?_
  refine s_val rfl (v_len_slice Tryz.underlying23 rfl) (s_val rfl (v_move rfl) (x_nil (n_then (x_block ?_))))
  refine x_loop (fun i : Nat => i ≤ n) (fun i => [(5, .int .i64 (bhK c i)), (11, .slice c.ga n c.gc), (12, .int .i64 n), (13, .int .i64 i)]) (fun _ => R) (fun i => n - i) 0 ?_ ?_ ?_ ?_
  · exact Nat.zero_le _
  · repeat (first | exact sub_nil | refine sub_cons rfl ?_)
  · exact inferInstance
  · intro i hi
    refine x_seq (x_region (s_val rfl (v_lss rfl rfl) (x_nil (n_then (x_seq ?_)))))
    refine x_if rfl ?_ ?_
    · intro c3
      refine x_skip (n_then (x_seq (x_block (x_seq ?_))))
      have hi1 : i < c.gl.length := by omega
      have hin : i < n := by omega
      obtain ⟨g, o, hga, hc⟩ := (h.ok.g R).at_ hi1
      obtain ⟨x, hx⟩ : ∃ x, c.gl[i] = x := ⟨_, rfl⟩
      rw [hx] at hc
      have hA : glA c i = x := by simp [glA, List.getD, hi1, hx]
      have hbx := hR.gs i hi1
      rw [hA] at hbx
      have hst : bhK c (i + 1) = bhK c i + (x.2.1 + x.2.2) := by rw [bhK, hA]
      have hl1 := bhK_mono hR.gs i (by omega)
      refine x_region ?_
      refine s_val rfl (v_idxA Tryz.underlying23 Tryz.sizeOf85 rfl hga rfl rfl hin (by first | exact Nat.zero_add _ | rfl)) ?_
      refine s_val rfl (v_loadAgg Tryz.isAgg85 Tryz.sizeOf85 rfl hc.weak rfl) ?_
      refine s_do rfl (d_allocA Tryz.zeroValue85) ?_
      rintro _ _ ⟨bx, rfl, rfl⟩
      refine s_do0 (d_storeAll Tryz.sizeOf85 rfl rfl rfl rfl rfl) ?_
      rintro _ _ rfl
      refine x_nil (n_then (x_region (s_val rfl (v_move rfl) ?_)))
      refine s_val rfl (v_fieldAddr rfl Tryz.underlying85 rfl Tryz.sizeOf3 rfl (by first | exact Nat.zero_add _ | rfl)) ?_
      refine s_val rfl (v_load Tryz.isAgg3 rfl (cell_own rfl)) ?_
      refine s_val rfl (v_fieldAddr rfl Tryz.underlying85 rfl Tryz.sizeOf3 rfl (by first | exact Nat.zero_add _ | rfl)) ?_
      refine s_val rfl (v_load Tryz.isAgg3 rfl (cell_own rfl)) ?_
      refine s_val rfl (v_add rfl rfl (w64 (by omega))) ?_
      refine s_val rfl (v_add rfl rfl (by rw [w64 (by omega)]; exact hst.symm : IntKind.wrap .i64 (bhK c i + (x.2.1 + x.2.2)) = bhK c (i + 1))) ?_
      refine s_val rfl (v_assign rfl) (x_nil (n_block (n_then (x_region ?_))))
      refine s_val rfl (v_add rfl rfl (by first | exact w64 (by omega) | rfl)) ?_
      refine s_val rfl (v_move rfl) (x_nil (n_then ?_))
      refine inv_intro (i + 1) ?_ ?_ ?_ ?_
      · omega
      · omega
      · repeat (first | exact sub_nil | refine sub_cons rfl ?_)
      · exact inferInstance
    · intro c3
      refine x_exit (e_then (e_then (e_block (n_then (x_seq (x_region (s_val rfl (v_move rfl) (s_val rfl (v_assign rfl) (x_nil (n_then (x_ret (x_done (.inl rfl) (.cons (r_tmp rfl) .nil) ?_))))))))))))
      obtain rfl : i = n := by omega
      exact ⟨_, ⟨rfl, rfl⟩, inferInstance⟩
theorem ownO_at {c : Cfg} {f : Int} {i : Nat} (hi : i < c.gl.length) (h : f < bhK c (i + 1)) (hI : ∀ j, j < i → ¬ f < bhK c (j + 1)) : ownO c f = some i :=
  fsO_at hi (decide_eq_true h) fun j hj => decide_eq_false (hI j hj)
theorem ownO_no {c : Cfg} {f : Int} (hI : ∀ j, j < c.gl.length → ¬ f < bhK c (j + 1)) : ownO c f = none := fsO_none fun j hj => decide_eq_false (hI j hj)
@[reducible] def ownL (x : Int × Int) : List Value := [.int .i64 x.1, .int .i64 x.2]
theorem cfOwner_spec (W0 : World) (R : List HP) (c : Cfg) (h : CfK W0 c) (f : Nat) :
    Spec Tryz.prog W0 122 [.agg (cfgV c).toArray, .int .i64 f] R (fun v B => v = .agg (ownL (ownV c f)).toArray ∧ B = R) := by
  obtain ⟨w, hw⟩ : ∃ w, rt c = w := ⟨_, rfl⟩
  have hO : ownV c f = if w = true ∧ 0 ≤ (f : Int) ∧ (f : Int) < ndK c c.gl.length then ownM (bhK c c.gl.length) f (ownO c f) else (0, 0) := by rw [ownV, hw]
  rw [hO]
  refine spec_body Tryz.func122 Tryz.ntmps122 rfl rfl ?_
  refine x_seq (x_region (s_do rfl (d_boxA rfl) ?_))
  rintro _ _ ⟨b2, rfl, rfl⟩
  refine s_do rfl (d_allocA Tryz.zeroValue195) ?_
  rintro _ _ ⟨b4, rfl, rfl⟩
  refine x_nil (n_then (x_seq (x_seq (x_region (s_val rfl (v_loadAll Tryz.isAgg29 Tryz.sizeOf29 rfl rfl) ?_)))))
  refine s_do rfl (d_call Tryz.call120 rfl (cfRight_spec W0 _ c h.ok)) ?_
  rintro _ B_ ⟨rfl, hB_⟩
  obtain rfl := hB_.symm
  rw [hw]
  refine s_val rfl (v_not rfl) (s_val rfl (v_move rfl) ?_)
  refine s_or rfl rfl rfl ?_ ?_
  · intro g1_4
    refine s_no rfl rfl rfl rfl (s_val rfl (v_pick_t rfl rfl) (s_val rfl (v_move rfl) (s_no rfl rfl rfl rfl (s_no rfl rfl rfl rfl (s_no rfl rfl rfl rfl (s_no rfl rfl rfl rfl (s_val rfl (v_pick_t rfl rfl) (x_nil (n_then (x_ift rfl (x_seq (x_region (s_val rfl (v_build Tryz.underlying195 Tryz.zeroValue195 (sized_cons Tryz.sizeOf3 (sized_cons Tryz.sizeOf3 sized_nil)) fil_nil) ?_)))))))))))))
    refine s_do0 (d_storeAll Tryz.sizeOf195 rfl rfl rfl rfl rfl) ?_
    rintro _ _ rfl
    refine x_nil (n_then (x_ret (r_then (x_done (.inl rfl) (.cons (r_all Tryz.isAgg195 Tryz.sizeOf195 rfl rfl) .nil) ?_))))
    rw [if_neg (by first | (rintro ⟨q1, q2, q3⟩; omega) | (rintro ⟨q1, q2⟩; simp_all; done) | (rintro ⟨q1, q2, q3⟩; simp_all; omega))]
    exact ⟨_, ⟨rfl, rfl⟩, inferInstance⟩
  · intro g1_4
    refine s_val rfl (v_move rfl) (s_yes rfl rfl (s_val rfl (v_lss rfl rfl) (s_val rfl (v_pick_f rfl rfl) (s_val rfl (v_move rfl) ?_))))
    refine s_or rfl rfl rfl ?_ ?_
    · intro g1_8
      refine s_no rfl rfl rfl rfl (s_no rfl rfl rfl rfl (s_no rfl rfl rfl rfl (s_val rfl (v_pick_t rfl rfl) (x_nil (n_then (x_ift rfl (x_seq (x_region (s_val rfl (v_build Tryz.underlying195 Tryz.zeroValue195 (sized_cons Tryz.sizeOf3 (sized_cons Tryz.sizeOf3 sized_nil)) fil_nil) ?_)))))))))
      refine s_do0 (d_storeAll Tryz.sizeOf195 rfl rfl rfl rfl rfl) ?_
      rintro _ _ rfl
      refine x_nil (n_then (x_ret (r_then (x_done (.inl rfl) (.cons (r_all Tryz.isAgg195 Tryz.sizeOf195 rfl rfl) .nil) ?_))))
      rw [if_neg (by first | (rintro ⟨q1, q2, q3⟩; omega) | (rintro ⟨q1, q2⟩; simp_all; done) | (rintro ⟨q1, q2, q3⟩; simp_all; omega))]
      exact ⟨_, ⟨rfl, rfl⟩, inferInstance⟩
    · intro g1_8
      have hw1 : w = true := by simp_all
      have hR := cfR (hw.trans hw1)
      have hg4 := hR.g4
      have hnd := hR.nd
      refine s_val rfl (v_move rfl) (s_yes rfl rfl (s_val rfl (v_loadAll Tryz.isAgg29 Tryz.sizeOf29 rfl rfl) ?_))
      refine s_yes rfl rfl (s_do rfl (d_call Tryz.call119 rfl (cfNeed_spec W0 _ c h.ok.g (need_of hR) hR.nn hR.g4)) ?_)
      rintro _ B_ ⟨rfl, hB_⟩
      obtain rfl := hB_.symm
      refine s_yes rfl rfl (s_val rfl (v_geq rfl rfl) (s_val rfl (v_pick_f rfl rfl) (x_nil (n_then ?_))))
      refine x_if rfl ?_ ?_
      · intro c1
        refine x_seq (x_region (s_val rfl (v_build Tryz.underlying195 Tryz.zeroValue195 (sized_cons Tryz.sizeOf3 (sized_cons Tryz.sizeOf3 sized_nil)) fil_nil) ?_))
        refine s_do0 (d_storeAll Tryz.sizeOf195 rfl rfl rfl rfl rfl) ?_
        rintro _ _ rfl
        refine x_nil (n_then (x_ret (r_then (x_done (.inl rfl) (.cons (r_all Tryz.isAgg195 Tryz.sizeOf195 rfl rfl) .nil) ?_))))
        rw [if_neg (by first | (rintro ⟨q1, q2, q3⟩; omega) | (rintro ⟨q1, q2⟩; simp_all; done) | (rintro ⟨q1, q2, q3⟩; simp_all; omega))]
        exact ⟨_, ⟨rfl, rfl⟩, inferInstance⟩
      · intro c1
        refine x_skip (n_then (x_seq (x_seq ?_)))
        have hw1 : w = true := by simp_all
        have hR := cfR (hw.trans hw1)
        have hg4 := hR.g4
        have hnd := hR.nd
        rw [if_pos ⟨hw1, by omega, by first | omega | (simp_all; omega)⟩]
        refine x_region ?_
        refine s_val rfl (v_fieldAddr rfl Tryz.underlying29 rfl Tryz.sizeOf23 rfl (by first | exact Nat.zero_add _ | rfl)) ?_
        refine s_val rfl (v_load Tryz.isAgg23 rfl (cell_own rfl)) ?_
        refine s_val rfl (v_len_slice Tryz.underlying23 rfl) (s_val rfl (v_move rfl) (x_nil (n_then (x_block ?_))))
        refine x_loop (fun i : Nat => i ≤ c.gl.length ∧ ∀ j, j < i → ¬ (f : Int) < bhK c (j + 1)) (fun i => [(1, .int .i64 f), (2, .pointer (some ⟨b2, 0, none⟩)), (4, .pointer (some ⟨b4, 0, none⟩)), (22, .int .i64 (c.gl.length : Nat)), (23, .int .i64 i)]) (fun _ => pt b2 (cfO c) :: pt b4 (cob [.int .i64 0, .int .i64 0] 195) :: R) (fun i => c.gl.length - i) 0 ?_ ?_ ?_ ?_
        · exact ⟨Nat.zero_le _, fun j hj => absurd hj (Nat.not_lt_zero _)⟩
        · repeat (first | exact sub_nil | refine sub_cons rfl ?_)
        · exact inferInstance
        · intro i ⟨hi, hI⟩
          refine x_seq (x_region (s_val rfl (v_lss rfl rfl) (x_nil (n_then (x_seq ?_)))))
          refine x_if rfl ?_ ?_
          · intro c4
            refine x_skip (n_then (x_seq (x_block (x_seq ?_))))
            have hi1 : i < c.gl.length := by omega
            refine x_region (s_val rfl (v_move rfl) (s_val rfl (v_assign rfl) (x_nil (n_then (x_seq (x_region (s_val rfl (v_move rfl) (s_val rfl (v_loadAll Tryz.isAgg29 Tryz.sizeOf29 rfl rfl) ?_))))))))
            refine s_val rfl (v_move rfl) ?_
            refine s_val rfl (v_add rfl rfl (by rw [w64 (by omega)]; omega : IntKind.wrap .i64 ((i : Int) + 1) = ((i + 1 : Nat) : Int))) ?_
            refine s_do rfl (d_call Tryz.call256 rfl (cfBehind_spec W0 _ c h hR (i + 1) hi1)) ?_
            rintro _ B_ ⟨rfl, hB_⟩
            obtain rfl := hB_.symm
            refine s_val rfl (v_lss rfl rfl) (x_nil (n_then ?_))
            refine x_if rfl ?_ ?_
            · intro c6
              refine x_seq (x_region (s_val rfl (v_move rfl) (s_val rfl (v_build Tryz.underlying195 Tryz.zeroValue195 (sized_cons Tryz.sizeOf3 (sized_cons Tryz.sizeOf3 sized_nil)) (fil_scal rfl Tryz.sizeOf3 rfl rfl (Nat.le_of_ble_eq_true rfl) SetL.eq (fil_scal rfl Tryz.sizeOf3 rfl rfl (Nat.le_of_ble_eq_true rfl) SetL.eq fil_nil))) ?_)))
              refine s_do0 (d_storeAll Tryz.sizeOf195 rfl rfl rfl rfl rfl) ?_
              rintro _ _ rfl
              refine x_nil (n_then (x_ret (r_block (r_then (r_then (r_block (r_then (x_done (.inl rfl) (.cons (r_all Tryz.isAgg195 Tryz.sizeOf195 rfl rfl) .nil) ?_))))))))
              rw [ownO_at hi1 c6 hI]
              exact ⟨_, ⟨rfl, rfl⟩, inferInstance⟩
            · intro c6
              refine x_skip (n_block (n_then (x_region ?_)))
              refine s_val rfl (v_add rfl rfl (by first | exact w64 (by omega) | rfl)) ?_
              refine s_val rfl (v_move rfl) (x_nil (n_then ?_))
              refine inv_intro (i + 1) ?_ ?_ ?_ ?_
              · refine ⟨by omega, fun j hj => ?_⟩
                rcases Nat.lt_or_ge j i with q | q
                · exact hI j q
                · rw [show j = i by omega]; exact c6
              · omega
              · repeat (first | exact sub_nil | refine sub_cons rfl ?_)
              · exact inferInstance
          · intro c4
            refine x_exit (e_then (e_then (e_block (n_then (x_seq ?_)))))
            obtain rfl : i = c.gl.length := by omega
            rw [ownO_no hI]
            have hbn := bhK_mono hR.gs c.gl.length (Nat.le_refl _)
            have hnb := ndK_bh c c.gl.length
            refine x_region (s_val rfl (v_move rfl) (s_val rfl (v_loadAll Tryz.isAgg29 Tryz.sizeOf29 rfl rfl) ?_))
            refine s_val rfl (v_fieldAddr rfl Tryz.underlying29 rfl Tryz.sizeOf23 rfl (by first | exact Nat.zero_add _ | rfl)) ?_
            refine s_val rfl (v_load Tryz.isAgg23 rfl (cell_own rfl)) ?_
            refine s_val rfl (v_len_slice Tryz.underlying23 rfl) (s_do rfl (d_call Tryz.call256 rfl (cfBehind_spec W0 _ c h hR c.gl.length (Nat.le_refl _))) ?_)
            rintro _ B_ ⟨rfl, hB_⟩
            obtain rfl := hB_.symm
            refine s_val rfl (v_sub rfl rfl (w64 (by omega))) ?_
            refine s_val rfl (v_build Tryz.underlying195 Tryz.zeroValue195 (sized_cons Tryz.sizeOf3 (sized_cons Tryz.sizeOf3 sized_nil)) (fil_scal rfl Tryz.sizeOf3 rfl rfl (Nat.le_of_ble_eq_true rfl) SetL.eq (fil_scal rfl Tryz.sizeOf3 rfl rfl (Nat.le_of_ble_eq_true rfl) SetL.eq fil_nil))) ?_
            refine s_do0 (d_storeAll Tryz.sizeOf195 rfl rfl rfl rfl rfl) ?_
            rintro _ _ rfl
            refine x_nil (n_then (x_ret (x_done (.inl rfl) (.cons (r_all Tryz.isAgg195 Tryz.sizeOf195 rfl rfl) .nil) ?_)))
            exact ⟨_, ⟨rfl, rfl⟩, inferInstance⟩
def rgF (c : Cfg) (i : Int) : Int := if rt c = true ∧ 0 ≤ i ∧ i < c.nl.length then bhK c c.gl.length + i else -1
theorem cfRingFrame_spec (W0 : World) (R : List HP) (c : Cfg) (h : CfK W0 c) (i : Int) :
    Spec Tryz.prog W0 206 [.agg (cfgV c).toArray, .int .i64 i] R (fun v B => v = .int .i64 (rgF c i) ∧ B = R) := by
  obtain ⟨w, hw⟩ : ∃ w, rt c = w := ⟨_, rfl⟩
  have hO : rgF c i = if w = true ∧ 0 ≤ i ∧ i < c.nl.length then bhK c c.gl.length + i else -1 := by rw [rgF, hw]
  rw [hO]
  refine spec_body Tryz.func206 Tryz.ntmps206 rfl rfl ?_
  refine x_seq (x_region (s_do rfl (d_boxA rfl) ?_))
  rintro _ _ ⟨b2, rfl, rfl⟩
  refine s_val rfl (v_assign rfl) (x_nil (n_then (x_seq (x_seq (x_region (s_val rfl (v_loadAll Tryz.isAgg29 Tryz.sizeOf29 rfl rfl) ?_))))))
  refine s_do rfl (d_call Tryz.call120 rfl (cfRight_spec W0 _ c h.ok)) ?_
  rintro _ B_ ⟨rfl, hB_⟩
  obtain rfl := hB_.symm
  rw [hw]
  refine s_val rfl (v_not rfl) (s_val rfl (v_move rfl) ?_)
  refine s_or rfl rfl rfl ?_ ?_
  · intro g1_4
    refine s_no rfl rfl rfl rfl (s_val rfl (v_pick_t rfl rfl) (s_val rfl (v_move rfl) (s_no rfl rfl rfl rfl (s_no rfl rfl rfl rfl (s_no rfl rfl rfl rfl (s_no rfl rfl rfl rfl (s_no rfl rfl rfl rfl (s_val rfl (v_pick_t rfl rfl) (x_nil (n_then (x_ift rfl (x_seq (x_region (s_val rfl (v_assign rfl) (x_nil (n_then (x_ret (r_then (x_done (.inl rfl) (.cons (r_tmp rfl) .nil) ?_)))))))))))))))))))
    rw [if_neg (by first | (rintro ⟨q1, q2, q3⟩; omega) | (rintro ⟨q1, q2⟩; simp_all; done) | (rintro ⟨q1, q2, q3⟩; simp_all; omega))]
    exact ⟨_, ⟨rfl, rfl⟩, inferInstance⟩
  · intro g1_4
    refine s_val rfl (v_move rfl) (s_yes rfl rfl (s_val rfl (v_lss rfl rfl) (s_val rfl (v_pick_f rfl rfl) (s_val rfl (v_move rfl) ?_))))
    refine s_or rfl rfl rfl ?_ ?_
    · intro g1_8
      refine s_no rfl rfl rfl rfl (s_no rfl rfl rfl rfl (s_no rfl rfl rfl rfl (s_no rfl rfl rfl rfl (s_val rfl (v_pick_t rfl rfl) (x_nil (n_then (x_ift rfl (x_seq (x_region (s_val rfl (v_assign rfl) (x_nil (n_then (x_ret (r_then (x_done (.inl rfl) (.cons (r_tmp rfl) .nil) ?_)))))))))))))))
      rw [if_neg (by first | (rintro ⟨q1, q2, q3⟩; omega) | (rintro ⟨q1, q2⟩; simp_all; done) | (rintro ⟨q1, q2, q3⟩; simp_all; omega))]
      exact ⟨_, ⟨rfl, rfl⟩, inferInstance⟩
    · intro g1_8
      refine s_val rfl (v_move rfl) (s_yes rfl rfl ?_)
      refine s_val rfl (v_fieldAddr rfl Tryz.underlying29 rfl Tryz.sizeOf26 rfl (by first | exact Nat.zero_add _ | rfl)) ?_
      refine s_yes rfl rfl (s_val rfl (v_load Tryz.isAgg26 rfl (cell_own rfl)) ?_)
      refine s_yes rfl rfl (s_val rfl (v_len_slice Tryz.underlying26 rfl) (s_yes rfl rfl (s_val rfl (v_geq rfl rfl) (s_val rfl (v_pick_f rfl rfl) (x_nil (n_then ?_))))))
      refine x_if rfl ?_ ?_
      · intro c1
        refine x_seq (x_region (s_val rfl (v_assign rfl) (x_nil (n_then (x_ret (r_then (x_done (.inl rfl) (.cons (r_tmp rfl) .nil) ?_)))))))
        rw [if_neg (by first | (rintro ⟨q1, q2, q3⟩; omega) | (rintro ⟨q1, q2⟩; simp_all; done) | (rintro ⟨q1, q2, q3⟩; simp_all; omega))]
        exact ⟨_, ⟨rfl, rfl⟩, inferInstance⟩
      · intro c1
        refine x_skip (n_then (x_seq ?_))
        have hw1 : w = true := by simp_all
        have hR := cfR (hw.trans hw1)
        have hg4 := hR.g4
        have hnn := hR.nn
        have hlt : i < c.nl.length := by first | omega | (simp_all; omega)
        rw [if_pos ⟨hw1, by omega, hlt⟩]
        have hbn := bhK_mono hR.gs c.gl.length (Nat.le_refl _)
        refine x_region (s_val rfl (v_loadAll Tryz.isAgg29 Tryz.sizeOf29 rfl rfl) ?_)
        refine s_val rfl (v_fieldAddr rfl Tryz.underlying29 rfl Tryz.sizeOf23 rfl (by first | exact Nat.zero_add _ | rfl)) ?_
        refine s_val rfl (v_load Tryz.isAgg23 rfl (cell_own rfl)) ?_
        refine s_val rfl (v_len_slice Tryz.underlying23 rfl) (s_do rfl (d_call Tryz.call256 rfl (cfBehind_spec W0 _ c h hR c.gl.length (Nat.le_refl _))) ?_)
        rintro _ B_ ⟨rfl, hB_⟩
        obtain rfl := hB_.symm
        refine s_val rfl (v_move rfl) ?_
        refine s_val rfl (v_add rfl rfl (w64 (by omega))) ?_
        refine s_val rfl (v_assign rfl) (x_nil (n_then (x_ret (x_done (.inl rfl) (.cons (r_tmp rfl) .nil) ?_))))
        exact ⟨_, ⟨rfl, rfl⟩, inferInstance⟩
end Go.Proofs.YtnidndllknffgaaGreat
namespace Go.Proofs.YtnidndllknffgaaGreat
open Go.RowKit
set_option linter.unusedSimpArgs false
set_option linter.unusedVariables false
set_option maxRecDepth 20000
theorem rcFrames_spec (W0 : World) (R : List HP) (c : Cfg) (h : CfOk W0 c) :
    Spec Tryz.prog W0 77 [.agg (cfgV c).toArray] R (fun v B => v = .int .i64 (frN c : Nat) ∧ B = R) := by
  refine spec_body Tryz.func77 Tryz.ntmps77 rfl rfl ?_
  refine x_seq (x_region (s_do rfl (d_boxA rfl) ?_))
  rintro _ _ ⟨b1, rfl, rfl⟩
  refine s_val rfl (v_assign rfl) (x_nil (n_then (x_seq (x_seq (x_region (s_val rfl (v_loadAll Tryz.isAgg29 Tryz.sizeOf29 rfl rfl) ?_))))))
  refine s_do rfl (d_call Tryz.call94 rfl (rcRight_spec W0 _ c h)) ?_
  rintro _ B_ ⟨rfl, hB_⟩
  obtain rfl := hB_.symm
  refine s_val rfl (v_not rfl) (x_nil (n_then ?_))
  refine x_if rfl ?_ ?_
  · intro c1
    refine x_seq (x_region (s_val rfl (v_assign rfl) (x_nil (n_then (x_ret (r_then (x_done (.inl rfl) (.cons (r_tmp rfl) .nil) ?_)))))))
    have hr : rt c = false := by simpa using c1
    rw [frN, hr]
    exact ⟨_, ⟨rfl, rfl⟩, inferInstance⟩
  · intro c1
    have hr : rt c = true := by simpa using c1
    have hR := cfR hr
    refine x_skip (n_then (x_seq (x_region (s_val rfl (v_loadAll Tryz.isAgg29 Tryz.sizeOf29 rfl rfl) ?_))))
    refine s_do rfl (d_call Tryz.call191 rfl (rcNeed_spec W0 _ c h.g (need_of hR) hR.nn hR.g4)) ?_
    rintro _ B_ ⟨rfl, hB_⟩
    obtain rfl := hB_.symm
    refine s_val rfl (v_assign rfl) (x_nil (n_then (x_ret (x_done (.inl rfl) (.cons (r_tmp rfl) .nil) ?_))))
    have hn : ((frN c : Nat) : Int) = ndK c c.gl.length := by
      have := hR.nd
      rw [frN, if_pos hr, nFr]; omega
    rw [hn]
    exact ⟨_, ⟨rfl, rfl⟩, inferInstance⟩
theorem rcOwner_spec (W0 : World) (R : List HP) (c : Cfg) (h : CfK W0 c) (f : Nat) (hr : rt c = true) (hf : (f : Int) < ndK c c.gl.length) :
    Spec Tryz.prog W0 79 [.agg (cfgV c).toArray, .int .i64 f] R (fun v B => v = .agg (ownL (ownV c f)).toArray ∧ B = R) := by
  have hR := cfR hr
  have hg4 := hR.g4
  have hnd := hR.nd
  have hnb := ndK_bh c c.gl.length
  rw [ownV, if_pos ⟨hr, by omega, hf⟩]
  refine spec_body Tryz.func79 Tryz.ntmps79 rfl rfl ?_
  refine x_seq (x_region (s_do rfl (d_boxA rfl) ?_))
  rintro _ _ ⟨b2, rfl, rfl⟩
  refine s_do rfl (d_allocA Tryz.zeroValue195) ?_
  rintro _ _ ⟨b4, rfl, rfl⟩
  refine x_nil (n_then (x_seq (x_seq (x_region (s_val rfl (v_loadAll Tryz.isAgg29 Tryz.sizeOf29 rfl rfl) ?_)))))
  refine s_do rfl (d_call Tryz.call94 rfl (rcRight_spec W0 _ c h.ok)) ?_
  rintro _ B_ ⟨rfl, hB_⟩
  obtain rfl := hB_.symm
  rw [hr]
  refine s_val rfl (v_not rfl) (s_val rfl (v_move rfl) ?_)
  refine s_or rfl rfl rfl ?_ ?_
  · intro g1_4
    exact absurd g1_4 (by decide)
  · intro g1_4
    refine s_val rfl (v_move rfl) (s_yes rfl rfl (s_val rfl (v_lss rfl rfl) (s_val rfl (v_pick_f rfl rfl) (x_nil (n_then ?_)))))
    refine x_if rfl ?_ ?_
    · intro c1
      first | exact absurd c1 (by decide) | (exfalso; omega)
    · intro c1
      refine x_skip (n_then (x_seq (x_region (s_val rfl (v_assign rfl) (x_nil (n_then (x_seq (x_seq (x_region (s_val rfl (v_assign rfl) (x_nil (n_then (x_block ?_)))))))))))))
      refine x_loop (fun i : Nat => i ≤ c.gl.length ∧ ∀ j, j < i → ¬ (f : Int) < bhK c (j + 1)) (fun i => [(1, .int .i64 f), (2, .pointer (some ⟨b2, 0, none⟩)), (4, .pointer (some ⟨b4, 0, none⟩)), (5, .int .i64 (bhK c i)), (6, .int .i64 i)]) (fun _ => pt b2 (cfO c) :: pt b4 (cob [.int .i64 0, .int .i64 0] 195) :: R) (fun i => c.gl.length - i) 0 ?_ ?_ ?_ ?_
      · exact ⟨Nat.zero_le _, fun j hj => absurd hj (Nat.not_lt_zero _)⟩
      · repeat (first | exact sub_nil | refine sub_cons rfl ?_)
      · exact inferInstance
      · intro i ⟨hi, hI⟩
        refine x_seq (x_seq (x_region (s_val rfl (v_move rfl) ?_)))
        refine s_val rfl (v_fieldAddr rfl Tryz.underlying29 rfl Tryz.sizeOf23 rfl (by first | exact Nat.zero_add _ | rfl)) ?_
        refine s_val rfl (v_load Tryz.isAgg23 rfl (cell_own rfl)) ?_
        refine s_val rfl (v_len_slice Tryz.underlying23 rfl) (s_val rfl (v_lss rfl rfl) (x_nil (n_then ?_)))
        refine x_if rfl ?_ ?_
        · intro c5
          refine x_skip (n_then (x_seq (x_block (x_seq ?_))))
          have hi1 : i < c.gl.length := by omega
          obtain ⟨g, o, hga, hc⟩ := (h.ok.g []).at_ hi1
          obtain ⟨x, hx⟩ : ∃ x, c.gl[i] = x := ⟨_, rfl⟩
          rw [hx] at hc
          have hA : glA c i = x := by simp [glA, List.getD, hi1, hx]
          have hbx := hR.gs i hi1
          rw [hA] at hbx
          have hst : bhK c (i + 1) = bhK c i + (x.2.1 + x.2.2) := by rw [bhK, hA]
          have hl1 := bhK_mono hR.gs i (by omega)
          refine x_draw [(b2, 0, cfgV c), (g, o + i * 3, gsV x)] 16 mixed rfl (sc_own (sc_cons hc.weak sc_end)) (fun hS => ?_)
          refine d_take 0 rfl rfl (by kernel_rfl) (by kernel_rfl) (by kernel_rfl) rfl hS (v_move rfl) ?_
          refine d_take 1 rfl rfl (by kernel_rfl) (by kernel_rfl) (by kernel_rfl) rfl hS (v_fieldAddr rfl Tryz.underlying29 rfl Tryz.sizeOf23 rfl (by first | exact Nat.zero_add _ | rfl)) ?_
          refine d_take 2 rfl rfl (by kernel_rfl) (by kernel_rfl) (by kernel_rfl) rfl hS (v_load Tryz.isAgg23 rfl (by first | exact cell_sc0 (k := 0) rfl rfl | exact cell_sc0 (k := 1) rfl rfl)) ?_
          refine d_take 3 rfl rfl (by kernel_rfl) (by kernel_rfl) (by kernel_rfl) rfl hS (v_move rfl) ?_
          refine d_take 4 rfl rfl (by kernel_rfl) (by kernel_rfl) (by kernel_rfl) rfl hS (v_idxA Tryz.underlying23 Tryz.sizeOf85 rfl hga rfl rfl hi1 (by first | exact Nat.zero_add _ | rfl)) ?_
          refine d_take 5 rfl rfl (by kernel_rfl) (by kernel_rfl) (by kernel_rfl) rfl hS (v_fieldAddr rfl Tryz.underlying85 rfl Tryz.sizeOf3 rfl (by first | exact Nat.zero_add _ | rfl)) ?_
          refine d_take 6 rfl rfl (by kernel_rfl) (by kernel_rfl) (by kernel_rfl) rfl hS (v_load Tryz.isAgg3 rfl (cell_sc (k := 1) (j := 1) rfl rfl)) ?_
          refine d_take 7 rfl rfl (by kernel_rfl) (by kernel_rfl) (by kernel_rfl) rfl hS (v_add rfl rfl (w64 (by omega))) ?_
          refine d_take 8 rfl rfl (by kernel_rfl) (by kernel_rfl) (by kernel_rfl) rfl hS (v_fieldAddr rfl Tryz.underlying29 rfl Tryz.sizeOf23 rfl (by first | exact Nat.zero_add _ | rfl)) ?_
          refine d_take 9 rfl rfl (by kernel_rfl) (by kernel_rfl) (by kernel_rfl) rfl hS (v_load Tryz.isAgg23 rfl (by first | exact cell_sc0 (k := 0) rfl rfl | exact cell_sc0 (k := 1) rfl rfl)) ?_
          refine d_take 10 rfl rfl (by kernel_rfl) (by kernel_rfl) (by kernel_rfl) rfl hS (v_move rfl) ?_
          refine d_take 11 rfl rfl (by kernel_rfl) (by kernel_rfl) (by kernel_rfl) rfl hS (v_idxA Tryz.underlying23 Tryz.sizeOf85 rfl hga rfl rfl hi1 (by first | exact Nat.zero_add _ | rfl)) ?_
          refine d_take 12 rfl rfl (by kernel_rfl) (by kernel_rfl) (by kernel_rfl) rfl hS (v_fieldAddr rfl Tryz.underlying85 rfl Tryz.sizeOf3 rfl (by first | exact Nat.zero_add _ | rfl)) ?_
          refine d_take 13 rfl rfl (by kernel_rfl) (by kernel_rfl) (by kernel_rfl) rfl hS (v_load Tryz.isAgg3 rfl (cell_sc (k := 1) (j := 2) rfl rfl)) ?_
          refine d_take 14 rfl rfl (by kernel_rfl) (by kernel_rfl) (by kernel_rfl) rfl hS (v_add rfl rfl (by rw [w64 (by omega)]; omega : IntKind.wrap .i64 (bhK c i + x.2.1 + x.2.2) = bhK c (i + 1))) ?_
          refine d_take 15 rfl rfl (by kernel_rfl) (by kernel_rfl) (by kernel_rfl) rfl hS (v_assign rfl) ?_
          refine d_done (by kernel_rfl) ?_; clear hS
          refine n_then (x_seq (x_region (s_val rfl (v_move rfl) (s_val rfl (v_move rfl) (s_val rfl (v_lss rfl rfl) (x_nil (n_then ?_)))))))
          refine x_if rfl ?_ ?_
          · intro c8
            refine x_seq (x_region (s_val rfl (v_move rfl) (s_val rfl (v_build Tryz.underlying195 Tryz.zeroValue195 (sized_cons Tryz.sizeOf3 (sized_cons Tryz.sizeOf3 sized_nil)) (fil_scal rfl Tryz.sizeOf3 rfl rfl (Nat.le_of_ble_eq_true rfl) SetL.eq (fil_scal rfl Tryz.sizeOf3 rfl rfl (Nat.le_of_ble_eq_true rfl) SetL.eq fil_nil))) ?_)))
            refine s_do0 (d_storeAll Tryz.sizeOf195 rfl rfl rfl rfl rfl) ?_
            rintro _ _ rfl
            refine x_nil (n_then (x_ret (r_block (r_then (r_then (r_block (r_then (x_done (.inl rfl) (.cons (r_all Tryz.isAgg195 Tryz.sizeOf195 rfl rfl) .nil) ?_))))))))
            rw [ownO_at hi1 c8 hI]
            exact ⟨_, ⟨rfl, rfl⟩, inferInstance⟩
          · intro c8
            refine x_skip (n_block (n_then (x_region (s_val rfl (v_move rfl) ?_))))
            refine s_val rfl (v_add rfl rfl (by first | exact w64 (by omega) | rfl)) ?_
            refine s_val rfl (v_assign rfl) (x_nil (n_then ?_))
            refine inv_intro (i + 1) ?_ ?_ ?_ ?_
            · refine ⟨by omega, fun j hj => ?_⟩
              rcases Nat.lt_or_ge j i with q | q
              · exact hI j q
              · rw [show j = i by omega]; exact c8
            · omega
            · repeat (first | exact sub_nil | refine sub_cons rfl ?_)
            · exact inferInstance
        · intro c5
          refine x_exit (e_then (e_then (e_block (n_then (x_seq (x_seq ?_))))))
          obtain rfl : i = c.gl.length := by omega
          rw [ownO_no hI]
          have hbn := bhK_mono hR.gs c.gl.length (Nat.le_refl _)
          refine x_region (s_val rfl (v_move rfl) (s_val rfl (v_move rfl) ?_))
          refine s_val rfl (v_sub rfl rfl (w64 (by omega))) ?_
          refine s_val rfl (v_fieldAddr rfl Tryz.underlying29 rfl Tryz.sizeOf26 rfl (by first | exact Nat.zero_add _ | rfl)) ?_
          refine s_val rfl (v_load Tryz.isAgg26 rfl (cell_own rfl)) ?_
          refine s_val rfl (v_len_slice Tryz.underlying26 rfl) (s_val rfl (v_lss rfl rfl) (x_nil (n_then ?_)))
          refine x_if rfl ?_ ?_
          · intro c10
            refine x_seq (x_region (s_val rfl (v_move rfl) (s_val rfl (v_move rfl) ?_)))
            refine s_val rfl (v_sub rfl rfl (w64 (by omega))) ?_
            refine s_val rfl (v_build Tryz.underlying195 Tryz.zeroValue195 (sized_cons Tryz.sizeOf3 (sized_cons Tryz.sizeOf3 sized_nil)) (fil_scal rfl Tryz.sizeOf3 rfl rfl (Nat.le_of_ble_eq_true rfl) SetL.eq (fil_scal rfl Tryz.sizeOf3 rfl rfl (Nat.le_of_ble_eq_true rfl) SetL.eq fil_nil))) ?_
            refine s_do0 (d_storeAll Tryz.sizeOf195 rfl rfl rfl rfl rfl) ?_
            rintro _ _ rfl
            refine x_nil (n_then (x_ret (r_then (x_done (.inl rfl) (.cons (r_all Tryz.isAgg195 Tryz.sizeOf195 rfl rfl) .nil) ?_))))
            exact ⟨_, ⟨rfl, rfl⟩, inferInstance⟩
          · intro c10
            omega
theorem rcRingFrame_spec (W0 : World) (R : List HP) (c : Cfg) (h : CfOk W0 c) (hr : rt c = true) (i : Int) (h0 : 0 ≤ i) (hi : i < c.nl.length) :
    Spec Tryz.prog W0 96 [.agg (cfgV c).toArray, .int .i64 i] R (fun v B => v = .int .i64 (rgF c i) ∧ B = R) := by
  have hR := cfR hr
  have hnd := hR.nd
  have hnn := hR.nn
  have hnb := ndK_bh c c.gl.length
  rw [rgF, if_pos ⟨hr, h0, hi⟩]
  refine spec_body Tryz.func96 Tryz.ntmps96 rfl rfl ?_
  refine x_seq (x_region (s_do rfl (d_boxA rfl) ?_))
  rintro _ _ ⟨b2, rfl, rfl⟩
  refine s_val rfl (v_assign rfl) (x_nil (n_then (x_seq (x_seq (x_region (s_val rfl (v_loadAll Tryz.isAgg29 Tryz.sizeOf29 rfl rfl) ?_))))))
  refine s_do rfl (d_call Tryz.call94 rfl (rcRight_spec W0 _ c h)) ?_
  rintro _ B_ ⟨rfl, hB_⟩
  obtain rfl := hB_.symm
  rw [hr]
  refine s_val rfl (v_not rfl) (s_val rfl (v_move rfl) ?_)
  refine s_or rfl rfl rfl ?_ ?_
  · intro g1_4
    exact absurd g1_4 (by decide)
  · intro g1_4
    refine s_val rfl (v_move rfl) (s_yes rfl rfl (s_val rfl (v_lss rfl rfl) (s_val rfl (v_pick_f rfl rfl) (s_val rfl (v_move rfl) ?_))))
    refine s_or rfl rfl rfl ?_ ?_
    · intro g1_8
      first | exact absurd g1_8 (by decide) | (exfalso; omega)
    · intro g1_8
      refine s_val rfl (v_move rfl) (s_yes rfl rfl ?_)
      refine s_val rfl (v_fieldAddr rfl Tryz.underlying29 rfl Tryz.sizeOf26 rfl (by first | exact Nat.zero_add _ | rfl)) ?_
      refine s_yes rfl rfl (s_val rfl (v_load Tryz.isAgg26 rfl (cell_own rfl)) ?_)
      refine s_yes rfl rfl (s_val rfl (v_len_slice Tryz.underlying26 rfl) (s_yes rfl rfl (s_val rfl (v_geq rfl rfl) (s_val rfl (v_pick_f rfl rfl) (x_nil (n_then ?_))))))
      refine x_if rfl ?_ ?_
      · intro c1
        first | exact absurd c1 (by decide) | (exfalso; omega)
      · intro c1
        refine x_skip (n_then (x_seq ?_))
        refine x_draw [(b2, 0, _)] 9 mixed rfl (sc_own sc_end) (fun hS => ?_)
        refine d_take 0 rfl rfl (by kernel_rfl) (by kernel_rfl) (by kernel_rfl) rfl hS (v_loadAgg Tryz.isAgg29 Tryz.sizeOf29 rfl (cells_sc (k := 0) rfl) rfl) ?_
        refine d_take 2 rfl rfl (by kernel_rfl) (by kernel_rfl) (by kernel_rfl) rfl hS (v_fieldAddr rfl Tryz.underlying29 rfl Tryz.sizeOf26 rfl (by first | exact Nat.zero_add _ | rfl)) ?_
        refine d_take 3 rfl rfl (by kernel_rfl) (by kernel_rfl) (by kernel_rfl) rfl hS (v_load Tryz.isAgg26 rfl (cell_sc0 (k := 0) rfl rfl)) ?_
        refine d_take 4 rfl rfl (by kernel_rfl) (by kernel_rfl) (by kernel_rfl) rfl hS (v_len_slice Tryz.underlying26 rfl) ?_
        refine d_take 6 rfl rfl (by kernel_rfl) (by kernel_rfl) (by kernel_rfl) rfl hS (v_move rfl) ?_
        refine d_one 1 (by kernel_rfl) rfl rfl (d_call Tryz.call191 rfl (rcNeed_spec W0 _ c h.g (need_of hR) hR.nn hR.g4)) rfl ?_; clear hS
        rintro _ B_ ⟨rfl, hB_⟩
        obtain rfl := hB_.symm
        refine ⟨(sc_own sc_end), fun hS => ?_⟩
        refine d_take 5 rfl rfl (by kernel_rfl) (by kernel_rfl) (by kernel_rfl) rfl hS (v_sub rfl rfl (w64 (by omega))) ?_
        refine d_take 7 rfl rfl (by kernel_rfl) (by kernel_rfl) (by kernel_rfl) rfl hS (v_add rfl rfl (by rw [w64 (by omega)]; omega : IntKind.wrap .i64 (ndK c c.gl.length - (c.nl.length : Int) + i) = bhK c c.gl.length + i)) ?_
        refine d_take 8 rfl rfl (by kernel_rfl) (by kernel_rfl) (by kernel_rfl) rfl hS (v_assign rfl) ?_
        refine d_done (by kernel_rfl) ?_; clear hS
        refine n_then (x_ret (x_done (.inl rfl) (.cons (r_tmp rfl) .nil) ?_))
        exact ⟨_, ⟨rfl, rfl⟩, inferInstance⟩
end Go.Proofs.YtnidndllknffgaaGreat
namespace Go.Proofs.YtnidndllknffgaaGreat
open Go.RowKit
set_option linter.unusedSimpArgs false
set_option linter.unusedVariables false
set_option maxRecDepth 20000
abbrev rfO (rl : List Nat) (pc : Nat) : Obj := cob (rl.map wV ++ [.bool true, wV pc]) 254
theorem regs_len {rl : List Nat} {pc : Nat} (h : rl.length = 16) : (rl.map wV ++ [Value.bool true, wV pc]).length = 18 := by simp [h]
theorem regs_front {rl : List Nat} {pc : Nat} (h : rl.length = 16) : ((rl.map wV ++ [Value.bool true, wV pc]).drop 0).take 16 = rl.map wV := by
  rw [List.drop_zero, List.take_left' (by rw [List.length_map, h])]
theorem regs_made {rl : List Nat} {pc : Nat} (h : rl.length = 16) : (rl.map wV ++ [Value.bool true, wV pc])[16]? = some (.bool true) := by
  rw [List.getElem?_append_right (by rw [List.length_map, h]; exact Nat.le_refl _), List.length_map, h]; rfl
theorem regs_pc {rl : List Nat} {pc : Nat} (h : rl.length = 16) : (rl.map wV ++ [Value.bool true, wV pc])[17]? = some (wV pc) := by
  rw [List.getElem?_append_right (by rw [List.length_map, h]; decide), List.length_map, h]; rfl
theorem regs_setpc {rl : List Nat} {pc q : Nat} (h : rl.length = 16) : (rl.map wV ++ [Value.bool true, wV pc]).set 17 (wV q) = rl.map wV ++ [.bool true, wV q] := by
  rw [List.set_append_right _ _ (by rw [List.length_map, h]; decide), List.length_map, h]; rfl
theorem regs_set {rl : List Nat} {pc i x : Nat} (h : rl.length = 16) (hi : i < 16) : (rl.map wV ++ [Value.bool true, wV pc]).set (i * 1) (wV x) = (rl.set i x).map wV ++ [.bool true, wV pc] := by
  rw [Nat.mul_one, List.set_append_left _ _ (by rw [List.length_map, h]; exact hi), List.map_set]
theorem regs_one (rl : List Nat) : allOne (rl.map wV) = true := by simp [allOne, wV, Value.oneCell']
section
variable {P : Program} {S : World → Prop} {N : FSz} {e : Env} {t : TypeId} {l : List Value} {v : Value}
theorem v_buildArr1 {E n i : Nat} {y : Operand} (hu : P.underlying t = some (.array n E)) (hs : ∀ w, (sizeOf E).run P w = .ok 1 w) (hz : ∀ w, (zeroValue t).run P w = .ok (.agg l.toArray) w)
    (hy : ev e y = some v) (h1 : v.oneCell' = true) (hi : i < l.length) : Val P S N e (.build t #[(i, y)]) (.agg (l.set i v).toArray) := fun a w _ _ _ _ _ hF _ => by
  have hb : Instr.build t ((#[(i, y)] : Array (Nat × Operand)).map fun (i, x) => (i, a.eval x)) = (do
      let zero := (← zeroValue t).cells
      match ← underlying t with
      | .struct fields =>
        let places ← fields.mapM placeOf
        let some cells := Instr.fill (places[·]?) zero ((#[(i, y)] : Array (Nat × Operand)).map fun (i, x) => (i, a.eval x)).toList | stuck "build: no such field, or a part of the wrong size"
        pure (.agg cells)
      | .array _ elem =>
        let size ← sizeOf elem
        let some cells := Instr.fill (fun i => some (i * size, size)) zero ((#[(i, y)] : Array (Nat × Operand)).map fun (i, x) => (i, a.eval x)).toList | stuck "build: a part of the wrong size"
        pure (.agg cells)
      | _ => stuck "build: struct or array type expected") := rfl
  have hc : ¬ (i + 1 > l.length) := by omega
  have hf : Instr.fill (fun i => some (i * 1, 1)) l.toArray [(i, a.eval y)] = some (l.set i v).toArray := by
    simp only [Instr.fill, hF.eval hy, cells_one h1, Nat.mul_one]
    simp [hc]
  simp only [execOp, hb, Sem.run_bind, hz, run_und hu, hs, Result.andThen_ok, Value.cells, Sem.run_pure, Array.toList_map, List.map_cons, List.map_nil]
  rw [hf]; rfl
end
theorem regsNew_spec (W0 : World) (R : List HP) : Spec Tryz.prog W0 210 [] R (fun v B => ∃ b, v = .pointer (some ⟨b, 0, none⟩) ∧ B = pt b (rfO (List.replicate 16 0) 0) :: R) := by
  refine spec_body Tryz.func210 Tryz.ntmps210 rfl rfl ?_
  refine x_seq (x_region (s_val rfl (v_assign rfl) (x_nil (n_then (x_seq (x_region (s_val rfl (v_build Tryz.underlying252 Tryz.zeroValue252 (sized_cons Tryz.sizeOf58 (sized_cons Tryz.sizeOf4 sized_nil)) (fil_scal rfl Tryz.sizeOf4 rfl rfl (Nat.le_of_ble_eq_true rfl) SetL.eq fil_nil)) ?_)))))))
  refine s_val rfl (v_build Tryz.underlying254 Tryz.zeroValue254 (sized_cons Tryz.sizeOf252 (sized_cons Tryz.sizeOf42 sized_nil)) (fil_agg rfl Tryz.sizeOf252 rfl rfl (Nat.le_of_ble_eq_true rfl) rfl fil_nil)) ?_
  refine s_do rfl (d_boxA rfl) ?_
  rintro _ _ ⟨b1, rfl, rfl⟩
  refine s_val rfl (v_assign rfl) (x_nil (n_then (x_ret (x_done (.inl rfl) (.cons (r_tmp rfl) .nil) ?_))))
  exact ⟨_, ⟨_, rfl, rfl⟩, ent_refl⟩
theorem regsAll_spec (W0 : World) (R : List HP) (b : Nat) (rl : List Nat) (pc : Nat) (hl : rl.length = 16) : Spec Tryz.prog W0 44 [.pointer (some ⟨b, 0, none⟩)] (pt b (rfO rl pc) :: R) (fun v B => v = .agg (rl.map wV).toArray ∧ B = pt b (rfO rl pc) :: R) := by
  refine spec_body Tryz.func44 Tryz.ntmps44 rfl rfl ?_
  refine x_seq (x_region (s_do rfl (d_allocA Tryz.zeroValue58) ?_))
  rintro _ _ ⟨b1, rfl, rfl⟩
  refine x_nil (n_then (x_seq (x_seq (x_region (s_val rfl (v_move rfl) (s_val rfl (v_eql_ptr_nil Tryz.underlying130 rfl rfl) (x_nil (n_then ?_))))))))
  refine x_if rfl ?_ ?_
  · intro c1
    cases c1
  · intro c1
    refine x_skip (n_then (x_seq (x_region (s_val rfl (v_move rfl) (s_val rfl (v_nilCheck rfl) ?_)))))
    refine s_val rfl (v_fieldAddr rfl Tryz.underlying254 rfl Tryz.sizeOf252 rfl (by first | exact Nat.zero_add _ | rfl)) ?_
    refine s_val rfl (v_fieldAddr rfl Tryz.underlying252 rfl Tryz.sizeOf58 rfl (by first | exact Nat.zero_add _ | rfl)) ?_
    refine s_val rfl (v_loadAgg Tryz.isAgg58 Tryz.sizeOf58 rfl (cells_part (b := b) (regs_front hl) (by rw [List.length_map, hl])) (by rw [List.length_map, hl])) ?_
    refine s_do0 (d_storeAll Tryz.sizeOf58 rfl rfl (by rw [List.length_map, hl]) (regs_one rl) rfl) ?_
    rintro _ _ rfl
    refine x_nil (n_then (x_ret ?_))
    refine x_done (.inl rfl) (.cons (r_all Tryz.isAgg58 Tryz.sizeOf58 rfl (by rw [List.length_map, hl])) .nil) ?_
    exact ⟨_, ⟨rfl, rfl⟩, inferInstance⟩
theorem regsPc_spec (W0 : World) (R : List HP) (b : Nat) (rl : List Nat) (pc : Nat) (hl : rl.length = 16) : Spec Tryz.prog W0 106 [.pointer (some ⟨b, 0, none⟩)] (pt b (rfO rl pc) :: R) (fun v B => v = wV pc ∧ B = pt b (rfO rl pc) :: R) := by
  refine spec_body Tryz.func106 Tryz.ntmps106 rfl rfl ?_
  refine x_seq (x_region (s_val rfl (v_assign rfl) (x_nil (n_then (x_seq (x_seq (x_region (s_val rfl (v_move rfl) (s_val rfl (v_eql_ptr_nil Tryz.underlying130 rfl rfl) (x_nil (n_then ?_)))))))))))
  refine x_if rfl ?_ ?_
  · intro c1
    cases c1
  · intro c1
    refine x_skip (n_then (x_seq (x_region (s_val rfl (v_move rfl) (s_val rfl (v_nilCheck rfl) ?_)))))
    refine s_val rfl (v_fieldAddr rfl Tryz.underlying254 rfl Tryz.sizeOf42 rfl (by first | exact Nat.zero_add _ | rfl)) ?_
    refine s_val rfl (v_load Tryz.isAgg42 rfl (cell_own (regs_pc hl))) ?_
    refine s_val rfl (v_assign rfl) (x_nil (n_then (x_ret (x_done (.inl rfl) (.cons (r_tmp rfl) .nil) ?_))))
    exact ⟨_, ⟨rfl, rfl⟩, inferInstance⟩
theorem regsJump_spec (W0 : World) (R : List HP) (b : Nat) (rl : List Nat) (pc q : Nat) (hl : rl.length = 16) : Spec Tryz.prog W0 107 [.pointer (some ⟨b, 0, none⟩), wV q] (pt b (rfO rl pc) :: R) (fun v B => v = .int .i64 0 ∧ B = pt b (rfO rl q) :: R) := by
  refine spec_body Tryz.func107 Tryz.ntmps107 rfl rfl ?_
  refine x_seq (x_region (s_val rfl (v_assign rfl) (x_nil (n_then (x_seq (x_seq (x_region (s_val rfl (v_move rfl) (s_val rfl (v_eql_ptr_nil Tryz.underlying130 rfl rfl) (s_val rfl (v_move rfl) ?_))))))))))
  refine s_or rfl rfl rfl ?_ ?_
  · intro g1_3
    cases g1_3
  · intro g1_3
    refine s_val rfl (v_move rfl) (s_yes rfl rfl (s_val rfl (v_nilCheck rfl) (s_yes rfl rfl ?_)))
    refine s_val rfl (v_fieldAddr rfl Tryz.underlying254 rfl Tryz.sizeOf252 rfl (by first | exact Nat.zero_add _ | rfl)) ?_
    refine s_yes rfl rfl ?_
    refine s_val rfl (v_fieldAddr rfl Tryz.underlying252 rfl Tryz.sizeOf4 rfl (by first | exact Nat.zero_add _ | rfl)) ?_
    refine s_yes rfl rfl (s_val rfl (v_load Tryz.isAgg4 rfl (cell_own (regs_made hl))) ?_)
    refine s_yes rfl rfl (s_val rfl (v_not rfl) (s_val rfl (v_pick_f rfl rfl) (x_nil (n_then ?_))))
    refine x_if rfl ?_ ?_
    · intro c1
      exact absurd c1 (by decide)
    · intro c1
      refine x_skip (n_then (x_seq (x_region (s_val rfl (v_move rfl) (s_val rfl (v_move rfl) (s_val rfl (v_nilCheck rfl) ?_))))))
      refine s_val rfl (v_fieldAddr rfl Tryz.underlying254 rfl Tryz.sizeOf42 rfl (by first | exact Nat.zero_add _ | rfl)) ?_
      refine s_do0 (d_store Tryz.sizeOf42 rfl rfl rfl (by rw [regs_len hl]; decide) (regs_setpc hl)) ?_
      rintro _ _ rfl
      refine x_nil (n_then (x_seq (x_region (s_val rfl (v_assign rfl) (x_nil (n_then (x_ret (x_done (.inl rfl) (.cons (r_tmp rfl) .nil) ?_))))))))
      exact ⟨_, ⟨rfl, rfl⟩, inferInstance⟩
def isR (i : Int) : Bool := decide (0 ≤ i ∧ i < 16)
theorem regsMay_spec (W0 : World) (R : List HP) (b : Nat) (rl : List Nat) (pc : Nat) (hl : rl.length = 16) (i : Int) : Spec Tryz.prog W0 217 [.pointer (some ⟨b, 0, none⟩), .int .i64 i] (pt b (rfO rl pc) :: R) (fun v B => v = .int .i64 (if isR i then 0 else 1) ∧ B = pt b (rfO rl pc) :: R) := by
  refine spec_body Tryz.func217 Tryz.ntmps217 rfl rfl ?_
  refine x_seq (x_region (s_val rfl (v_assign rfl) (x_nil (n_then (x_seq (x_block (x_seq (x_region (s_val rfl (v_move rfl) (s_val rfl (v_nilCheck rfl) ?_))))))))))
  refine s_val rfl (v_fieldAddr rfl Tryz.underlying252 rfl Tryz.sizeOf4 rfl (by first | exact Nat.zero_add _ | rfl)) ?_
  refine s_val rfl (v_load Tryz.isAgg4 rfl (cell_own (regs_made hl))) ?_
  refine s_val rfl (v_not rfl) (s_val rfl (v_assign rfl) (x_nil (n_then ?_)))
  refine x_if rfl ?_ ?_
  · intro c1
    exact absurd c1 (by decide)
  · intro c1
    refine x_seq (x_seq (x_region (s_val rfl (v_move rfl) (s_val rfl (v_lss rfl rfl) (s_val rfl (v_assign rfl) (x_nil (n_then ?_)))))))
    refine x_if rfl ?_ ?_
    · intro c3
      refine x_skip (n_then (x_ift rfl (x_seq (x_region (s_val rfl (v_assign rfl) (x_nil (n_then (x_ret (r_block (r_then (x_done (.inl rfl) (.cons (r_tmp rfl) .nil) ?_)))))))))))
      rw [if_neg (by simp only [isR, decide_eq_true_eq]; omega)]
      exact ⟨_, ⟨rfl, rfl⟩, inferInstance⟩
    · intro c3
      refine x_region (s_val rfl (v_move rfl) (s_val rfl (v_geq rfl rfl) (s_val rfl (v_assign rfl) (x_nil (n_then ?_)))))
      refine x_if rfl ?_ ?_
      · intro c4
        refine x_seq (x_region (s_val rfl (v_assign rfl) (x_nil (n_then (x_ret (r_block (r_then (x_done (.inl rfl) (.cons (r_tmp rfl) .nil) ?_))))))))
        rw [if_neg (by simp only [isR, decide_eq_true_eq]; omega)]
        exact ⟨_, ⟨rfl, rfl⟩, inferInstance⟩
      · intro c4
        refine x_skip (n_block (n_then (x_seq (x_region (s_val rfl (v_assign rfl) (x_nil (n_then (x_ret (x_done (.inl rfl) (.cons (r_tmp rfl) .nil) ?_)))))))))
        rw [if_pos (by simp only [isR, decide_eq_true_eq]; omega)]
        exact ⟨_, ⟨rfl, rfl⟩, inferInstance⟩
theorem regsPut_spec (W0 : World) (R : List HP) (b : Nat) (rl : List Nat) (pc i x : Nat) (hl : rl.length = 16) (hi : i < 16) (h0 : i ≠ 0) : Spec Tryz.prog W0 218 [.pointer (some ⟨b, 0, none⟩), .int .i64 i, wV x] (pt b (rfO rl pc) :: R) (fun v B => v = .tuple #[] ∧ B = pt b (rfO (rl.set i x) pc) :: R) := by
  refine spec_body Tryz.func218 Tryz.ntmps218 rfl rfl ?_
  refine x_seq (x_region (s_val rfl (v_move rfl) (s_val rfl (v_neq rfl rfl) (x_nil (n_then ?_)))))
  refine x_if rfl ?_ ?_
  · intro c0
    refine x_region (s_val rfl (v_move rfl) (s_val rfl (v_move rfl) (s_val rfl (v_move rfl) (s_val rfl (v_nilCheck rfl) ?_))))
    refine s_val rfl (v_fieldAddr rfl Tryz.underlying252 rfl Tryz.sizeOf58 rfl (by first | exact Nat.zero_add _ | rfl)) ?_
    refine s_val rfl (v_idxArr Tryz.underlying58 Tryz.sizeOf42 rfl rfl rfl hi (by first | exact Nat.zero_add _ | rfl)) ?_
    refine s_do0 (d_store Tryz.sizeOf42 rfl rfl rfl (by rw [regs_len hl]; omega) (regs_set hl hi)) ?_
    rintro _ _ rfl
    refine x_nil (x_done (.inr rfl) .nil ?_)
    exact ⟨_, ⟨rfl, rfl⟩, inferInstance⟩
  · intro c0
    simp at c0; omega
theorem regsSet_spec (W0 : World) (R : List HP) (b : Nat) (rl : List Nat) (pc i x : Nat) (hl : rl.length = 16) (hi : i < 16) (h0 : i ≠ 0) : Spec Tryz.prog W0 98 [.pointer (some ⟨b, 0, none⟩), .int .i64 i, wV x] (pt b (rfO rl pc) :: R) (fun v B => v = .int .i64 0 ∧ B = pt b (rfO (rl.set i x) pc) :: R) := by
  have hir : isR i = true := by simp only [isR, decide_eq_true_eq]; omega
  refine spec_body Tryz.func98 Tryz.ntmps98 rfl rfl ?_
  refine x_seq (x_region (s_val rfl (v_assign rfl) (x_nil (n_then (x_seq (x_seq (x_region (s_val rfl (v_move rfl) (s_val rfl (v_eql_ptr_nil Tryz.underlying130 rfl rfl) (x_nil (n_then ?_)))))))))))
  refine x_if rfl ?_ ?_
  · intro c1
    cases c1
  · intro c1
    refine x_skip (n_then (x_seq (x_region (s_val rfl (v_move rfl) (s_val rfl (v_nilCheck rfl) ?_)))))
    refine s_val rfl (v_fieldAddr rfl Tryz.underlying254 rfl Tryz.sizeOf252 rfl (by first | exact Nat.zero_add _ | rfl)) ?_
    refine s_val rfl (v_move rfl) (s_do rfl (d_call1 Tryz.call217 rfl (regsMay_spec W0 _ b rl pc hl i)) ?_)
    rintro _ B_ ⟨rfl, hB_⟩
    obtain rfl := hB_.symm
    refine s_val rfl (v_assign rfl) (x_nil (n_then (x_seq (x_seq (x_region (s_val rfl (v_move rfl) (s_val rfl (v_eql rfl rfl) (x_nil (n_then ?_)))))))))
    refine x_if rfl ?_ ?_
    · intro c4
      refine x_region (s_val rfl (v_move rfl) (s_val rfl (v_nilCheck rfl) ?_))
      refine s_val rfl (v_fieldAddr rfl Tryz.underlying254 rfl Tryz.sizeOf252 rfl (by first | exact Nat.zero_add _ | rfl)) ?_
      refine s_val rfl (v_move rfl) (s_val rfl (v_move rfl) (s_do rfl (d_call1 Tryz.call218 rfl (regsPut_spec W0 _ b rl pc i x hl hi h0)) ?_))
      rintro _ B_ ⟨rfl, hB_⟩
      obtain rfl := hB_.symm
      refine x_nil (n_then (x_seq (x_region (s_val rfl (v_move rfl) (s_val rfl (v_assign rfl) (x_nil (n_then (x_ret (x_done (.inl rfl) (.cons (r_tmp rfl) .nil) ?_)))))))))
      rw [hir]
      exact ⟨_, ⟨rfl, rfl⟩, inferInstance⟩
    · intro c4
      exact absurd (by rw [hir]; rfl) c4
abbrev csO (id : Nat) : Obj := cob ([wV 0, wV 0, wV 0, wV 0, wV 0, wV 4, wV 0] ++ [.int .i64 id, .bool true]) 459
theorem csFirst_spec (W0 : World) (R : List HP) : Spec Tryz.prog W0 303 [] R (fun v B => v = .agg #[wV 0, wV 0, wV 0, wV 0, wV 0, wV 4, wV 0] ∧ B = R) := by
  refine spec_body Tryz.func303 Tryz.ntmps303 rfl rfl ?_
  refine x_seq (x_region (s_do rfl (d_allocA Tryz.zeroValue456) ?_))
  rintro _ _ ⟨b1, rfl, rfl⟩
  refine x_nil (n_then (x_seq (x_region ?_)))
  refine s_val rfl (v_buildArr1 Tryz.underlying456 Tryz.sizeOf42 Tryz.zeroValue456 rfl rfl (by decide)) ?_
  refine s_do0 (d_storeAll Tryz.sizeOf456 rfl rfl rfl rfl rfl) ?_
  rintro _ _ rfl
  refine x_nil (n_then (x_ret (x_done (.inl rfl) (.cons (r_all Tryz.isAgg456 Tryz.sizeOf456 rfl rfl) .nil) ?_)))
  exact ⟨_, ⟨rfl, rfl⟩, inferInstance⟩
theorem csNew_spec (W0 : World) (R : List HP) (i : Nat) (hi : i < 4) : Spec Tryz.prog W0 208 [.int .i64 i] R (fun v B => ∃ b, v = .tuple #[.pointer (some ⟨b, 0, none⟩), .int .i64 0] ∧ B = pt b (csO i) :: R) := by
  refine spec_body Tryz.func208 Tryz.ntmps208 rfl rfl ?_
  refine x_seq (x_region (s_val rfl (v_assign rfl) (s_val rfl (v_assign rfl) (x_nil (n_then (x_seq (x_seq (x_region (s_val rfl (v_move rfl) (s_val rfl (v_lss rfl rfl) (s_val rfl (v_move rfl) ?_)))))))))))
  refine s_or rfl rfl rfl ?_ ?_
  · intro g1_3
    omega
  · intro g1_3
    refine s_val rfl (v_move rfl) (s_yes rfl rfl (s_val rfl (v_geq rfl rfl) (s_val rfl (v_pick_f rfl rfl) (x_nil (n_then ?_)))))
    refine x_if rfl ?_ ?_
    · intro c1
      omega
    · intro c1
      refine x_skip (n_then (x_seq (x_region (s_do rfl (d_call Tryz.call303 rfl (csFirst_spec W0 _)) ?_))))
      rintro _ B_ ⟨rfl, hB_⟩
      obtain rfl := hB_.symm
      refine s_val rfl (v_move rfl) (s_val rfl (v_build Tryz.underlying459 Tryz.zeroValue459 (sized_cons Tryz.sizeOf456 (sized_cons Tryz.sizeOf3 (sized_cons Tryz.sizeOf4 sized_nil))) (fil_agg rfl Tryz.sizeOf456 rfl rfl (Nat.le_of_ble_eq_true rfl) SetRL.eq (fil_scal rfl Tryz.sizeOf3 rfl rfl (Nat.le_of_ble_eq_true rfl) SetL.eq (fil_scal rfl Tryz.sizeOf4 rfl rfl (Nat.le_of_ble_eq_true rfl) SetL.eq fil_nil)))) ?_)
      refine s_do rfl (d_boxA rfl) ?_
      rintro _ _ ⟨b1, rfl, rfl⟩
      refine s_val rfl (v_assign rfl) (s_val rfl (v_assign rfl) (x_nil (n_then (x_ret (x_done (.inl rfl) (.cons (r_tmp rfl) (.cons (r_tmp rfl) .nil)) ?_)))))
      exact ⟨_, ⟨_, rfl, rfl⟩, ent_refl⟩
abbrev vcO : Obj := cob ([.bool false, .bool false, .int .i64 0, .int .i64 0, .bool false, .bool false, .int .i64 0, .int .i64 0, .bool false, .bool false, .int .i64 0, .int .i64 0, .bool false, .bool false, .int .i64 0, .int .i64 0, .bool false, .bool false, .int .i64 0, .int .i64 0, .bool false, .bool false, .int .i64 0, .int .i64 0, .bool false, .bool false, .int .i64 0, .int .i64 0, .bool false, .bool false, .int .i64 0, .int .i64 0, .slice none 0 0, .int .i64 0, .bool false].set 34 (.bool true)) 285
theorem vcNew_spec (W0 : World) (R : List HP) : Spec Tryz.prog W0 211 [] R (fun v B => ∃ b, v = .pointer (some ⟨b, 0, none⟩) ∧ B = pt b vcO :: R) := by
  refine spec_body Tryz.func211 Tryz.ntmps211 rfl rfl ?_
  refine x_seq (x_region (s_val rfl (v_assign rfl) (x_nil (n_then (x_seq (x_region (s_val rfl (v_build Tryz.underlying285 Tryz.zeroValue285 (sized_cons Tryz.sizeOf280 (sized_cons Tryz.sizeOf283 (sized_cons Tryz.sizeOf3 (sized_cons Tryz.sizeOf4 sized_nil)))) (fil_scal rfl Tryz.sizeOf4 rfl rfl (Nat.le_of_ble_eq_true rfl) SetL.eq fil_nil)) ?_)))))))
  refine s_do rfl (d_boxA rfl) ?_
  rintro _ _ ⟨b1, rfl, rfl⟩
  refine s_val rfl (v_assign rfl) (x_nil (n_then (x_ret (x_done (.inl rfl) (.cons (r_tmp rfl) .nil) ?_))))
  exact ⟨_, ⟨_, rfl, rfl⟩, ent_refl⟩
abbrev tmO : Obj := cob [nilS, .bool false, .bool false, .bool false, .bool false, .int .i64 0, .bool true] 468
theorem tmNew_spec (W0 : World) (R : List HP) : Spec Tryz.prog W0 212 [] R (fun v B => ∃ b, v = .pointer (some ⟨b, 0, none⟩) ∧ B = pt b tmO :: R) := by
  refine spec_body Tryz.func212 Tryz.ntmps212 rfl rfl ?_
  refine x_seq (x_region (s_val rfl (v_assign rfl) (x_nil (n_then (x_seq (x_region (s_val rfl (v_build Tryz.underlying468 Tryz.zeroValue468 (sized_cons Tryz.sizeOf465 (sized_cons Tryz.sizeOf466 (sized_cons Tryz.sizeOf3 (sized_cons Tryz.sizeOf4 sized_nil)))) (fil_scal rfl Tryz.sizeOf4 rfl rfl (Nat.le_of_ble_eq_true rfl) SetL.eq fil_nil)) ?_)))))))
  refine s_do rfl (d_boxA rfl) ?_
  rintro _ _ ⟨b1, rfl, rfl⟩
  refine s_val rfl (v_assign rfl) (x_nil (n_then (x_ret (x_done (.inl rfl) (.cons (r_tmp rfl) .nil) ?_))))
  exact ⟨_, ⟨_, rfl, rfl⟩, ent_refl⟩
abbrev bxO : Obj := cob [nilS, .bool true] 377
theorem bxNew_spec (W0 : World) (R : List HP) : Spec Tryz.prog W0 92 [] R (fun v B => ∃ b, v = .pointer (some ⟨b, 0, none⟩) ∧ B = pt b bxO :: R) := by
  refine spec_body Tryz.func92 Tryz.ntmps92 rfl rfl ?_
  refine x_seq (x_region (s_val rfl (v_assign rfl) (x_nil (n_then (x_seq (x_region (s_val rfl (v_build Tryz.underlying377 Tryz.zeroValue377 (sized_cons Tryz.sizeOf218 (sized_cons Tryz.sizeOf4 sized_nil)) (fil_scal rfl Tryz.sizeOf4 rfl rfl (Nat.le_of_ble_eq_true rfl) SetL.eq fil_nil)) ?_)))))))
  refine s_do rfl (d_boxA rfl) ?_
  rintro _ _ ⟨b1, rfl, rfl⟩
  refine s_val rfl (v_assign rfl) (x_nil (n_then (x_ret (x_done (.inl rfl) (.cons (r_tmp rfl) .nil) ?_))))
  exact ⟨_, ⟨_, rfl, rfl⟩, ent_refl⟩
structure Evt where
  k : Int
  clock : Int
  code : Nat
  val : Nat
  pc : Nat
  rl : List Nat
@[reducible] def evV (e : Evt) : List Value := [.int .i64 e.k, .int .i64 e.clock, wV e.code, wV e.val, wV e.pc] ++ (List.range 16).map fun i => wV (e.rl.getD i 0)
theorem evV_len (e : Evt) : (evV e).length = 21 := by simp [evV]
theorem evV_eq {e : Evt} (h : e.rl.length = 16) : evV e = [.int .i64 e.k, .int .i64 e.clock, wV e.code, wV e.val, wV e.pc] ++ e.rl.map wV := by
  unfold evV; congr 1
  apply List.ext_getElem
  · simp [h]
  · intro i h1 h2
    have : i < e.rl.length := by simpa using h2
    simp [List.getD, this]
def trH (b : Nat) (es : List Evt) : HP := chk (fun C => ∃ a c, C = [pt b (cob [.slice a es.length c, .bool true] 184), osl 407 21 (.slice a es.length c) (es.flatMap evV)])
section
variable {P : Program} {W0 : World} {N : FSz} {K : Act → World → Prop} {e : Env} {A B R R1 R2 : List HP} {b n : Nat} {es : List Evt} {f : FuncId} {args : List Value} {Post : Value → List HP → Prop}
theorem run_tr [hk : Tk trH b A es R] (h : ∀ a c, Run W0 N K e (pt b (cob [.slice a es.length c, .bool true] 184) :: osl 407 21 (.slice a es.length c) (es.flatMap evV) :: R)) : Run W0 N K e A :=
  run_tk (r := trH) (b := b) (run_chk fun C hC => by obtain ⟨a, c, rfl⟩ := hC; exact h a c)
theorem ent_tr {a : Option Addr} {c : Nat} {xs : List Value} [h1 : Tk pt b A (cob [.slice a n c, .bool true] 184) R1] [h2 : Tk (osl 407 21) (.slice a n c) R1 xs R2] (hn : n = es.length) (hx : xs = es.flatMap evV) [k : Ent R2 B] : Ent A (trH b es :: B) := by
  subst hn; subst hx
  exact (Ent.ofPerm (h1.perm.trans (h2.perm.cons _))).trans ((Ent.cons (Ent.cons k)).trans (ent_chk (R := B) (C := [_, _]) ⟨a, c, rfl⟩))
end
theorem trNew_spec (W0 : World) (R : List HP) : Spec Tryz.prog W0 93 [] R (fun v B => ∃ b, v = .pointer (some ⟨b, 0, none⟩) ∧ B = trH b [] :: R) := by
  refine spec_body Tryz.func93 Tryz.ntmps93 rfl rfl ?_
  refine x_seq (x_region (s_val rfl (v_assign rfl) (x_nil (n_then (x_seq (x_region (s_val rfl (v_build Tryz.underlying184 Tryz.zeroValue184 (sized_cons Tryz.sizeOf182 (sized_cons Tryz.sizeOf4 sized_nil)) (fil_scal rfl Tryz.sizeOf4 rfl rfl (Nat.le_of_ble_eq_true rfl) SetL.eq fil_nil)) ?_)))))))
  refine s_do rfl (d_boxA rfl) ?_
  rintro _ _ ⟨b1, rfl, rfl⟩
  refine s_val rfl (v_assign rfl) (x_nil (n_then (x_ret (x_done (.inl rfl) (.cons (r_tmp rfl) .nil) ?_))))
  exact ⟨_, ⟨_, rfl, rfl⟩, (Ent.cons (ent_osl_nil (E := 407) (sz := 21) (A := R) (B := R))).trans (ent_chk (R := R) (C := [_, _]) ⟨none, 0, rfl⟩)⟩
theorem trNone_spec (W0 : World) (R : List HP) (b : Nat) (es : List Evt) : Spec Tryz.prog W0 74 [.pointer (some ⟨b, 0, none⟩)] (trH b es :: R) (fun v B => v = .bool false ∧ B = trH b es :: R) := by
  refine spec_body Tryz.func74 Tryz.ntmps74 rfl rfl ?_
  refine x_seq (x_region (s_val rfl (v_assign rfl) (x_nil (n_then (x_seq ?_)))))
  refine run_tr (b := b) fun a c => ?_
  refine x_region (s_val rfl (v_move rfl) (s_val rfl (v_eql_ptr_nil Tryz.underlying94 rfl rfl) (s_val rfl (v_move rfl) ?_)))
  refine s_or rfl rfl rfl ?_ ?_
  · intro g1_3
    cases g1_3
  · intro g1_3
    refine s_val rfl (v_move rfl) (s_yes rfl rfl (s_val rfl (v_nilCheck rfl) (s_yes rfl rfl ?_)))
    refine s_val rfl (v_fieldAddr rfl Tryz.underlying184 rfl Tryz.sizeOf4 rfl (by first | exact Nat.zero_add _ | rfl)) ?_
    refine s_yes rfl rfl (s_val rfl (v_load Tryz.isAgg4 rfl (cell_own rfl)) ?_)
    refine s_yes rfl rfl (s_val rfl (v_not rfl) (s_val rfl (v_pick_f rfl rfl) (s_val rfl (v_assign rfl) (x_nil (n_then (x_ret (x_done (.inl rfl) (.cons (r_tmp rfl) .nil) ?_)))))))
    exact ⟨_, ⟨rfl, rfl⟩, ent_tr rfl rfl⟩
theorem trLen_spec (W0 : World) (R : List HP) (b : Nat) (es : List Evt) : Spec Tryz.prog W0 31 [.pointer (some ⟨b, 0, none⟩)] (trH b es :: R) (fun v B => v = .int .i64 (es.length : Nat) ∧ B = trH b es :: R) := by
  refine spec_body Tryz.func31 Tryz.ntmps31 rfl rfl ?_
  refine x_seq (x_region (s_val rfl (v_assign rfl) (x_nil (n_then (x_seq (x_seq (x_region (s_val rfl (v_move rfl) (s_do rfl (d_call1 Tryz.call74 rfl (trNone_spec W0 _ b es)) ?_)))))))))
  rintro _ B_ ⟨rfl, hB_⟩
  obtain rfl := hB_.symm
  refine x_nil (n_then ?_)
  refine x_if rfl ?_ ?_
  · intro c1
    exact absurd c1 (by decide)
  · intro c1
    refine x_skip (n_then (x_seq ?_))
    refine run_tr (b := b) fun a c => ?_
    refine x_region (s_val rfl (v_move rfl) (s_val rfl (v_nilCheck rfl) ?_))
    refine s_val rfl (v_fieldAddr rfl Tryz.underlying184 rfl Tryz.sizeOf182 rfl (by first | exact Nat.zero_add _ | rfl)) ?_
    refine s_val rfl (v_load Tryz.isAgg182 rfl (cell_own rfl)) ?_
    refine s_val rfl (v_len_slice Tryz.underlying182 rfl) (s_val rfl (v_assign rfl) (x_nil (n_then (x_ret (x_done (.inl rfl) (.cons (r_tmp rfl) .nil) ?_)))))
    exact ⟨_, ⟨rfl, rfl⟩, ent_tr rfl rfl⟩
theorem trAdd_spec (W0 : World) (R : List HP) (b : Nat) (es : List Evt) (x : Evt) (hn : es.length < 4096) : Spec Tryz.prog W0 241 [.pointer (some ⟨b, 0, none⟩), .agg (evV x).toArray] (trH b es :: R) (fun v B => v = .int .i64 0 ∧ B = trH b (es ++ [x]) :: R) := by
  have he : es.flatMap evV ++ [evV x].flatten = (es ++ [x]).flatMap evV := by simp
  refine spec_body Tryz.func241 Tryz.ntmps241 rfl rfl ?_
  refine x_seq (x_region (s_do rfl (d_boxA rfl) ?_))
  rintro _ _ ⟨b3, rfl, rfl⟩
  refine s_val rfl (v_assign rfl) (x_nil (n_then (x_seq (x_block (x_seq (x_region (s_val rfl (v_move rfl) (s_do rfl (d_call1 Tryz.call74 rfl (trNone_spec W0 _ b es)) ?_))))))))
  rintro _ B_ ⟨rfl, hB_⟩
  obtain rfl := hB_.symm
  refine s_val rfl (v_assign rfl) (x_nil (n_then ?_))
  refine x_if rfl ?_ ?_
  · intro c1
    exact absurd c1 (by decide)
  · intro c1
    refine x_seq ?_
    refine run_tr (b := b) fun a c => ?_
    refine x_region (s_val rfl (v_move rfl) (s_val rfl (v_nilCheck rfl) ?_))
    refine s_val rfl (v_fieldAddr rfl Tryz.underlying184 rfl Tryz.sizeOf182 rfl (by first | exact Nat.zero_add _ | rfl)) ?_
    refine s_val rfl (v_load Tryz.isAgg182 rfl (cell_own rfl)) ?_
    refine s_val rfl (v_len_slice Tryz.underlying182 rfl) (s_val rfl (v_geq rfl rfl) (s_val rfl (v_assign rfl) (x_nil (n_then ?_))))
    refine x_if rfl ?_ ?_
    · intro c3
      omega
    · intro c3
      refine x_skip (n_block (n_then (x_seq ?_)))
      refine x_draw [(b3, 0, _)] 11 mixed rfl (sc_own sc_end) (fun hS => ?_)
      refine d_take 0 rfl rfl (by kernel_rfl) (by kernel_rfl) (by kernel_rfl) rfl hS (v_move rfl) ?_
      refine d_take 1 rfl rfl (by kernel_rfl) (by kernel_rfl) (by kernel_rfl) rfl hS (v_move rfl) ?_
      refine d_take 2 rfl rfl (by kernel_rfl) (by kernel_rfl) (by kernel_rfl) rfl hS (v_nilCheck rfl) ?_
      refine d_take 3 rfl rfl (by kernel_rfl) (by kernel_rfl) (by kernel_rfl) rfl hS (v_fieldAddr rfl Tryz.underlying184 rfl Tryz.sizeOf182 rfl (by first | exact Nat.zero_add _ | rfl)) ?_
      refine d_take 5 rfl rfl (by kernel_rfl) (by kernel_rfl) (by kernel_rfl) rfl hS (v_loadAgg Tryz.isAgg407 Tryz.sizeOf407 rfl (cells_sc (k := 0) rfl) (evV_len x)) ?_
      refine d_all (is := [4, 6]) (by kernel_rfl) rfl ⟨?_, ?_, trivial⟩
      · skip
        refine dx_one rfl rfl (d_val (v_load Tryz.isAgg182 rfl (cell_own rfl))) rfl ?_; clear hS
        rintro _ _ ⟨rfl, rfl⟩
        refine ⟨(sc_own sc_end), fun hS => ?_⟩
        refine d_one 6 (by kernel_rfl) rfl rfl (d_sliceAgg Tryz.underlying182 Tryz.sizeOf407 Tryz.zeroValue407 rfl (elsK_cons rfl rfl elsK_nil) rfl (by decide) (by decide) (by decide)) rfl ?_; clear hS
        rintro _ _ ⟨b2, rfl, rfl⟩
        refine ⟨(sc_own sc_end), fun hS => ?_⟩
        refine d_one 7 (by kernel_rfl) rfl rfl (d_append (sz := 21) (by_ := 96) (info := Tryz.t407) Tryz.underlying182 (by kernel_rfl) rfl rfl rfl rfl (by decide) rfl rfl cells_all rfl rfl (by simp only [maxLen]; omega) (by omega)) rfl ?_; clear hS
        rintro _ _ ⟨a3, c3, rfl, rfl⟩
        refine ⟨(sc_own sc_end), fun hS => ?_⟩
        refine d_take 8 rfl rfl (by kernel_rfl) (by kernel_rfl) (by kernel_rfl) rfl hS (v_nilCheck rfl) ?_
        refine d_take 9 rfl rfl (by kernel_rfl) (by kernel_rfl) (by kernel_rfl) rfl hS (v_fieldAddr rfl Tryz.underlying184 rfl Tryz.sizeOf182 rfl (by first | exact Nat.zero_add _ | rfl)) ?_
        refine d_one 10 (by kernel_rfl) rfl rfl (d_store Tryz.sizeOf182 rfl rfl rfl (Nat.le_of_ble_eq_true rfl) SetL.eq) rfl ?_; clear hS
        rintro _ _ rfl
        refine ⟨(sc_own sc_end), fun hS => ?_⟩
        refine d_done (by kernel_rfl) ?_; clear hS
        refine n_then (x_seq (x_region (s_val rfl (v_assign rfl) (x_nil (n_then (x_ret (x_done (.inl rfl) (.cons (r_tmp rfl) .nil) ?_)))))))
        exact ⟨_, ⟨rfl, rfl⟩, ent_tr (es := es ++ [x]) (by simp) he⟩
      · skip
        refine dx_one rfl rfl (d_sliceAgg Tryz.underlying182 Tryz.sizeOf407 Tryz.zeroValue407 rfl (elsK_cons rfl rfl elsK_nil) rfl (by decide) (by decide) (by decide)) rfl ?_; clear hS
        rintro _ _ ⟨b2, rfl, rfl⟩
        refine ⟨(sc_own sc_end), fun hS => ?_⟩
        refine d_one 4 (by kernel_rfl) rfl rfl (d_val (v_load Tryz.isAgg182 rfl (cell_own rfl))) rfl ?_; clear hS
        rintro _ _ ⟨rfl, rfl⟩
        refine ⟨(sc_own sc_end), fun hS => ?_⟩
        refine d_one 7 (by kernel_rfl) rfl rfl (d_append (sz := 21) (by_ := 96) (info := Tryz.t407) Tryz.underlying182 (by kernel_rfl) rfl rfl rfl rfl (by decide) rfl rfl cells_all rfl rfl (by simp only [maxLen]; omega) (by omega)) rfl ?_; clear hS
        rintro _ _ ⟨a3, c3, rfl, rfl⟩
        refine ⟨(sc_own sc_end), fun hS => ?_⟩
        refine d_take 8 rfl rfl (by kernel_rfl) (by kernel_rfl) (by kernel_rfl) rfl hS (v_nilCheck rfl) ?_
        refine d_take 9 rfl rfl (by kernel_rfl) (by kernel_rfl) (by kernel_rfl) rfl hS (v_fieldAddr rfl Tryz.underlying184 rfl Tryz.sizeOf182 rfl (by first | exact Nat.zero_add _ | rfl)) ?_
        refine d_one 10 (by kernel_rfl) rfl rfl (d_store Tryz.sizeOf182 rfl rfl rfl (Nat.le_of_ble_eq_true rfl) SetL.eq) rfl ?_; clear hS
        rintro _ _ rfl
        refine ⟨(sc_own sc_end), fun hS => ?_⟩
        refine d_done (by kernel_rfl) ?_; clear hS
        refine n_then (x_seq (x_region (s_val rfl (v_assign rfl) (x_nil (n_then (x_ret (x_done (.inl rfl) (.cons (r_tmp rfl) .nil) ?_)))))))
        exact ⟨_, ⟨rfl, rfl⟩, ent_tr (es := es ++ [x]) (by simp) he⟩
abbrev gtO (cats who quota : Int) : Obj := cob [nilS, .int .i64 0, .int .i64 0, .int .i64 0, .int .i64 cats, .int .i64 who, .int .i64 quota, .bool true] 129
theorem gtNew_spec (W0 : World) (R : List HP) (cats who quota : Int) (h1 : 0 ≤ cats ∧ cats ≤ 8) (h2 : -1 ≤ who ∧ who < 4) (h3 : 0 ≤ quota ∧ quota ≤ 64) : Spec Tryz.prog W0 51 [.int .i64 cats, .int .i64 who, .int .i64 quota] R (fun v B => ∃ b, v = .tuple #[.pointer (some ⟨b, 0, none⟩), .int .i64 0] ∧ B = pt b (gtO cats who quota) :: R) := by
  refine spec_body Tryz.func51 Tryz.ntmps51 rfl rfl ?_
  refine x_seq (x_region (s_val rfl (v_assign rfl) (s_val rfl (v_assign rfl) (x_nil (n_then (x_seq (x_block (x_seq (x_block (x_block (x_block (x_seq (x_seq (x_seq (x_seq (x_region (s_val rfl (v_move rfl) (s_val rfl (v_lss rfl rfl) (s_val rfl (v_assign rfl) (x_nil (n_then ?_)))))))))))))))))))))
  refine x_if rfl ?_ ?_
  · intro c1
    omega
  · intro c1
    refine x_region (s_val rfl (v_move rfl) (s_val rfl (v_gtr rfl rfl) (s_val rfl (v_assign rfl) (x_nil (n_then ?_)))))
    refine x_if rfl ?_ ?_
    · intro c2
      omega
    · intro c2
      refine x_skip (n_then (x_seq (x_seq (x_seq (x_region (s_val rfl (v_move rfl) (s_val rfl (v_lss rfl rfl) (s_val rfl (v_assign rfl) (x_nil (n_then ?_))))))))))
      refine x_if rfl ?_ ?_
      · intro c3
        omega
      · intro c3
        refine x_region (s_val rfl (v_move rfl) (s_val rfl (v_geq rfl rfl) (s_val rfl (v_assign rfl) (x_nil (n_then ?_)))))
        refine x_if rfl ?_ ?_
        · intro c4
          omega
        · intro c4
          refine x_skip (n_then (x_seq (x_seq (x_region (s_val rfl (v_move rfl) (s_val rfl (v_lss rfl rfl) (s_val rfl (v_assign rfl) (x_nil (n_then ?_)))))))))
          refine x_if rfl ?_ ?_
          · intro c5
            omega
          · intro c5
            refine x_region (s_val rfl (v_move rfl) (s_val rfl (v_gtr rfl rfl) (s_val rfl (v_assign rfl) (x_nil (n_then ?_)))))
            refine x_if rfl ?_ ?_
            · intro c6
              omega
            · intro c6
              refine x_skip (n_then (x_exit (e_block_ne rfl (e_block_ne rfl (e_block_ne rfl (e_then (e_block (n_then (x_seq (x_region (s_val rfl (v_move rfl) (s_val rfl (v_move rfl) (s_val rfl (v_move rfl) (s_val rfl (v_build Tryz.underlying129 Tryz.zeroValue129 (sized_cons Tryz.sizeOf127 (sized_cons Tryz.sizeOf3 (sized_cons Tryz.sizeOf3 (sized_cons Tryz.sizeOf3 (sized_cons Tryz.sizeOf4 sized_nil))))) (fil_scal rfl Tryz.sizeOf3 rfl rfl (Nat.le_of_ble_eq_true rfl) SetL.eq (fil_scal rfl Tryz.sizeOf3 rfl rfl (Nat.le_of_ble_eq_true rfl) SetL.eq (fil_scal rfl Tryz.sizeOf3 rfl rfl (Nat.le_of_ble_eq_true rfl) SetL.eq (fil_scal rfl Tryz.sizeOf4 rfl rfl (Nat.le_of_ble_eq_true rfl) SetL.eq fil_nil))))) ?_))))))))))))))
              refine s_do rfl (d_boxA rfl) ?_
              rintro _ _ ⟨b1, rfl, rfl⟩
              refine s_val rfl (v_assign rfl) (s_val rfl (v_assign rfl) (x_nil (n_then (x_ret (x_done (.inl rfl) (.cons (r_tmp rfl) (.cons (r_tmp rfl) .nil)) ?_)))))
              exact ⟨_, ⟨_, rfl, rfl⟩, ent_refl⟩
end Go.Proofs.YtnidndllknffgaaGreat
namespace Go.Proofs.YtnidndllknffgaaGreat
set_option linter.unusedSimpArgs false
set_option linter.unusedVariables false
structure It where
  kr : Int
  kp : Int
  ep : Int
  ef : Int
  er : Int
  u : Int
deriving DecidableEq
instance : Inhabited It := ⟨⟨0, 0, 0, 0, 0, 0⟩⟩
def It.key (x : It) : Int × Int := (x.kr, x.kp)
def It.ent (x : It) : Int × Int × Int := (x.ep, x.ef, x.er)
def itemV (x : It) : List Value := [.int .i64 x.kr, .int .i64 x.kp, .int .i64 x.ep, .int .i64 x.ef, .int .i64 x.er, .int .i64 x.u]
theorem itemV_len (x : It) : (itemV x).length = 6 := rfl
def us (l : List It) (i : Nat) : Int := (l.getD i default).u
theorem us_eq {l : List It} {i : Nat} (h : i < l.length) : us l i = l[i].u := by simp [us, List.getD, h]
def swapL (l : List It) (i j : Nat) : List It := (l.set i (l.getD j default)).set j (l.getD i default)
theorem swapL_length (l : List It) (i j : Nat) : (swapL l i j).length = l.length := by simp [swapL]
theorem getD_swapL {l : List It} {i j : Nat} (hi : i < l.length) (hj : j < l.length) (x : Nat) : (swapL l i j).getD x default = if x = i then l.getD j default else if x = j then l.getD i default else l.getD x default := by
  simp only [swapL, List.getD_eq_getElem?_getD, List.getElem?_set, List.length_set]
  by_cases h1 : x = j
  · subst h1
    by_cases h2 : x = i
    · subst h2; simp [hj]
    · simp [hj, h2]
  · have h1' : ¬ j = x := fun h => h1 h.symm
    by_cases h2 : x = i
    · subst h2; simp [h1', hi]
    · have h2' : ¬ i = x := fun h => h2 h.symm
      simp [h1, h1', h2, h2']
theorem us_swapL {l : List It} {i j : Nat} (hi : i < l.length) (hj : j < l.length) (x : Nat) : us (swapL l i j) x = if x = i then us l j else if x = j then us l i else us l x := by
  unfold us; rw [getD_swapL hi hj]; split
  · rfl
  · split <;> rfl
theorem swap_perm {α : Type} : ∀ (l : List α) (i j : Nat) (hi : i < l.length) (hj : j < l.length), ((l.set i l[j]).set j l[i]).Perm l := by
  intro l i j hi hj
  have : ((l.set i l[j]).set j l[i]).Perm l := List.set_set_perm hi hj
  exact this
theorem swapL_perm {l : List It} {i j : Nat} (hi : i < l.length) (hj : j < l.length) : (swapL l i j).Perm l := by
  have := swap_perm l i j hi hj
  simpa [swapL, List.getD, hi, hj] using this
def Heap (l : List It) (n : Nat) : Prop := ∀ c, c < n → 0 < c → us l ((c - 1) / 2) ≤ us l c
def Hole (l : List It) (i n : Nat) : Prop := ∀ c, c < n → 0 < c → (c ≠ i → (c - 1) / 2 ≠ i → us l ((c - 1) / 2) ≤ us l c) ∧ ((c - 1) / 2 = i → 0 < i → us l ((i - 1) / 2) ≤ us l c)
def Up (l : List It) (j n : Nat) : Prop := ∀ c, c < n → 0 < c → (c ≠ j → us l ((c - 1) / 2) ≤ us l c) ∧ ((c - 1) / 2 = j → 0 < j → us l ((j - 1) / 2) ≤ us l c)
theorem hole_swap {l : List It} {i j n : Nat} (h : Hole l i n) (hn : n ≤ l.length) (hj : j < n) (hc : (j - 1) / 2 = i) (h0 : 0 < j) (hlt : us l j < us l i)
    (hmin : ∀ c, c < n → 0 < c → (c - 1) / 2 = i → us l j ≤ us l c) : Hole (swapL l i j) j n ∧ us (swapL l i j) ((j - 1) / 2) ≤ us (swapL l i j) j := by
  have hij : i < j := by omega
  have sw := us_swapL (l := l) (i := i) (j := j) (by omega) (by omega)
  refine ⟨fun c hcn hc0 => ⟨fun h1 h2 => ?_, fun h1 h2 => ?_⟩, ?_⟩
  · rw [sw, sw]
    by_cases e1 : c = i
    · subst e1
      have := (h j hj h0).2 hc (by omega)
      rw [if_neg (by omega), if_neg (by omega), if_pos rfl]; exact this
    · by_cases e2 : (c - 1) / 2 = i
      · rw [if_pos e2, if_neg e1, if_neg h1]; exact hmin c hcn hc0 e2
      · rw [if_neg e2, if_neg h2, if_neg e1, if_neg h1]; exact (h c hcn hc0).1 e1 e2
  · rw [hc, sw, sw, if_pos rfl, if_neg (by omega), if_neg (by omega)]
    rw [← h1]; exact (h c hcn hc0).1 (by omega) (by omega)
  · rw [hc, sw, sw, if_pos rfl, if_neg (by omega), if_pos rfl]; omega
theorem hole_heap {l : List It} {i n : Nat} (h : Hole l i n) (hmin : ∀ c, c < n → 0 < c → (c - 1) / 2 = i → us l i ≤ us l c) (hp : 0 < i → us l ((i - 1) / 2) ≤ us l i) : Heap l n := fun c hc h0 => by
  by_cases e1 : (c - 1) / 2 = i
  · rw [e1]; exact hmin c hc h0 e1
  · by_cases e2 : c = i
    · subst e2; exact hp h0
    · exact (h c hc h0).1 e2 e1
theorem up_swap {l : List It} {j n : Nat} (h : Up l j n) (hn : n ≤ l.length) (hj : j < n) (h0 : 0 < j) (hlt : us l j < us l ((j - 1) / 2)) : Up (swapL l ((j - 1) / 2) j) ((j - 1) / 2) n := by
  have sw := us_swapL (l := l) (i := (j - 1) / 2) (j := j) (by omega) (by omega)
  intro c hc hc0
  refine ⟨fun h1 => ?_, fun h1 h2 => ?_⟩
  · rw [sw, sw]
    by_cases e1 : c = j
    · subst e1; rw [if_pos rfl, if_neg (by omega), if_pos rfl]; omega
    · by_cases e2 : (c - 1) / 2 = (j - 1) / 2
      · rw [if_pos e2, if_neg (by omega), if_neg e1]
        have := (h c hc hc0).1 e1; rw [e2] at this; omega
      · by_cases e3 : (c - 1) / 2 = j
        · rw [if_neg e2, if_pos e3, if_neg h1, if_neg e1]; exact (h c hc hc0).2 e3 h0
        · rw [if_neg e2, if_neg e3, if_neg h1, if_neg e1]; exact (h c hc hc0).1 e1
  · rw [sw, sw, if_neg (by omega), if_neg (by omega)]
    have hp := (h ((j - 1) / 2) (by omega) h2).1 (by omega)
    by_cases e1 : c = j
    · subst e1; rw [if_neg (by omega), if_pos rfl]; exact hp
    · rw [if_neg (by omega), if_neg e1]
      have := (h c hc hc0).1 e1; rw [h1] at this; omega
theorem up_heap {l : List It} {j n : Nat} (h : Up l j n) (hp : 0 < j → us l ((j - 1) / 2) ≤ us l j) : Heap l n := fun c hc h0 => by
  by_cases e : c = j
  · subst e; exact hp h0
  · exact (h c hc h0).1 e
theorem heap_min {l : List It} {n : Nat} (h : Heap l n) : ∀ c, c < n → us l 0 ≤ us l c := by
  intro c
  induction c using Nat.strongRecOn with
  | _ c ih =>
    intro hc
    by_cases h0 : c = 0
    · subst h0; omega
    · have := h c hc (by omega)
      have := ih ((c - 1) / 2) (by omega) (by omega)
      omega
theorem us_congr {l l' : List It} {n : Nat} (h : ∀ i, i < n → l.getD i default = l'.getD i default) {i : Nat} (hi : i < n) : us l i = us l' i := by unfold us; rw [h i hi]
theorem heap_congr {l l' : List It} {n : Nat} (h : ∀ i, i < n → l.getD i default = l'.getD i default) (k : Heap l n) : Heap l' n := fun c hc h0 => by
  rw [← us_congr h hc, ← us_congr h (i := (c - 1) / 2) (by omega)]; exact k c hc h0
structure Down (its l : List It) (i0 n : Nat) (moved : Bool) : Prop where
  perm : l.Perm its
  tail : ∀ x, n ≤ x → l.getD x default = its.getD x default
  no : moved = false → l = its ∧ ∀ c, c < n → 0 < c → (c - 1) / 2 = i0 → us its i0 ≤ us its c
  yes : moved = true → Heap l n
theorem down_done {l its : List It} {i i0 n : Nat} (hp : l.Perm its) (hi : i0 ≤ i) (hH : Hole l i n) (ht : ∀ x, n ≤ x → l.getD x default = its.getD x default) (h0 : i = i0 → l = its)
    (hg : i0 < i → us l ((i - 1) / 2) ≤ us l i) (hmin : ∀ c, c < n → 0 < c → (c - 1) / 2 = i → us l i ≤ us l c) : Down its l i0 n (decide (i0 < i)) :=
  ⟨hp, ht, fun h => by
    have : i = i0 := by simp at h; omega
    subst this
    obtain rfl := h0 rfl
    exact ⟨rfl, hmin⟩, fun h => by
    have : i0 < i := by simpa using h
    exact hole_heap hH hmin fun _ => hg this⟩
end Go.Proofs.YtnidndllknffgaaGreat
namespace Go.Proofs.YtnidndllknffgaaGreat
open Go.RowKit
set_option linter.unusedSimpArgs false
set_option linter.unusedVariables false
set_option maxRecDepth 20000
def rowH (b : Nat) (x : List It × List Value) : HP := chk (fun C => ∃ a c, C = [pt b (cob (.slice a x.1.length c :: x.2) 525), osl 518 6 (.slice a x.1.length c) (x.1.flatMap itemV)])
section
variable {P : Program} {W0 : World} {R A : List HP} {b : Nat} {its : List It} {tl : List Value} {f : FuncId} {args : List Value} {Post : Value → List HP → Prop}
theorem spec_row (h : ∀ a c, Spec P W0 f args (pt b (cob (.slice a its.length c :: tl) 525) :: osl 518 6 (.slice a its.length c) (its.flatMap itemV) :: R) Post) : Spec P W0 f args (rowH b (its, tl) :: R) Post :=
  spec_chk fun C hC => by obtain ⟨a, c, rfl⟩ := hC; exact h a c
theorem ent_row {a : Option Addr} {c n : Nat} {R1 R2 B : List HP} [h1 : Tk pt b A (cob (.slice a n c :: tl) 525) R1] [h2 : Tk (osl 518 6) (.slice a n c) R1 (its.flatMap itemV) R2] (hn : n = its.length) [k : Ent R2 B] : Ent A (rowH b (its, tl) :: B) := by
  subst hn
  exact (Ent.ofPerm (h1.perm.trans (h2.perm.cons _))).trans ((Ent.cons (Ent.cons k)).trans (ent_chk (R := B) (C := [_, _]) ⟨a, c, rfl⟩))
theorem spec_rowN (h0 : its ≠ []) (h : ∀ g c sp, its.length ≤ c → c ≤ maxLen → (its.flatMap itemV ++ sp).length = c * 6 → Spec P W0 f args (pt b (cob (.slice (some ⟨g, 0, none⟩) its.length c :: tl) 525) :: pt g (cob (its.flatMap itemV ++ sp) 518) :: R) Post) : Spec P W0 f args (rowH b (its, tl) :: R) Post :=
  spec_row fun a c => spec_perm (List.Perm.swap _ _ _) (spec_osl (fun h1 h2 => by
      have := flat_len itemV_len its
      rw [h2] at this
      exact absurd (List.eq_nil_of_length_eq_zero (by simp at this; omega)) h0)
    (fun g n cap sp h1 h2 h3 h4 h5 => by
      cases h1
      exact spec_perm (List.Perm.swap _ _ _) (h g _ sp h2 h3 h5)))
theorem ent_rowN {g c n : Nat} {xs sp : List Value} {R1 R2 B : List HP} [h1 : Tk pt b A (cob (.slice (some ⟨g, 0, none⟩) n c :: tl) 525) R1] [h2 : Tk pt g R1 (cob (xs ++ sp) 518) R2] (hx : xs = its.flatMap itemV) (hn : n = its.length) (hc : n ≤ c) (hm : c ≤ maxLen) (hl : (xs ++ sp).length = c * 6) [k : Ent R2 B] : Ent A (rowH b (its, tl) :: B) := by
  subst hn
  subst hx
  have e : Ent R1 (osl 518 6 (.slice (some ⟨g, 0, none⟩) its.length c) (its.flatMap itemV) :: B) := ent_osl hc hm (flat_len itemV_len its) hl
  exact (Ent.ofPerm h1.perm).trans ((Ent.cons e).trans (ent_chk (R := B) (C := [_, _]) ⟨_, c, rfl⟩))
end
theorem item_get (its : List It) (sp : List Value) (i j : Nat) (hi : i < its.length) (hj : j < 6) : (its.flatMap itemV ++ sp)[i * 6 + j]? = (itemV (its.getD i default))[j]? := by
  rw [flat_get itemV_len its i j sp hi hj]; simp [List.getD, hi]
theorem item_row (its : List It) (sp : List Value) (i : Nat) (hi : i < its.length) : ((its.flatMap itemV ++ sp).drop (i * 6)).take 6 = itemV (its.getD i default) := by
  rw [flat_row itemV_len its i sp hi]; simp [List.getD, hi]
theorem item_set (its : List It) (sp : List Value) (i : Nat) (x : It) (hi : i < its.length) : setR (its.flatMap itemV ++ sp) (i * 6) (itemV x) = (its.set i x).flatMap itemV ++ sp := flat_set itemV_len its i x sp hi
theorem item_bd (its : List It) (sp : List Value) (i : Nat) (hi : i < its.length) : i * 6 + 6 ≤ (its.flatMap itemV ++ sp).length := by
  rw [List.length_append, flat_len itemV_len]; omega
theorem pos_ne {its : List It} {i : Nat} (h : i < its.length) : its ≠ [] := fun e => by rw [e] at h; simp at h
theorem rowLen_spec (W0 : World) (R : List HP) (b : Nat) (its : List It) (tl : List Value) :
    Spec Tryz.prog W0 492 [.pointer (some ⟨b, 0, none⟩)] (rowH b (its, tl) :: R) (fun v B => v = .int .i64 (its.length : Nat) ∧ B = rowH b (its, tl) :: R) := by
  refine spec_row fun a c => ?_
  refine spec_body Tryz.func492 Tryz.ntmps492 rfl rfl ?_
  refine x_seq (x_region (s_val rfl (v_assign rfl) (x_nil (n_then (x_seq (x_region (s_val rfl (v_move rfl) (s_val rfl (v_nilCheck rfl) ?_))))))))
  refine s_val rfl (v_fieldAddr rfl Tryz.underlying523 rfl Tryz.sizeOf515 rfl (by first | exact Nat.zero_add _ | rfl)) ?_
  refine s_val rfl (v_load Tryz.isAgg515 rfl (cell_own rfl)) ?_
  refine s_val rfl (v_len_slice Tryz.underlying515 rfl) (s_val rfl (v_assign rfl) (x_nil (n_then (x_ret (x_done (.inl rfl) (.cons (r_tmp rfl) .nil) ?_)))))
  exact ⟨_, ⟨rfl, rfl⟩, ent_row rfl⟩
theorem rowLess_spec (W0 : World) (R : List HP) (b : Nat) (its : List It) (tl : List Value) (i k : Nat) (hi : i < its.length) (hk : k < its.length) :
    Spec Tryz.prog W0 505 [.pointer (some ⟨b, 0, none⟩), .int .i64 i, .int .i64 k] (rowH b (its, tl) :: R) (fun v B => v = .bool (decide (us its i < us its k)) ∧ B = rowH b (its, tl) :: R) := by
  refine spec_rowN (pos_ne hi) fun g c sp h1 h2 h3 => ?_
  refine spec_body Tryz.func505 Tryz.ntmps505 rfl rfl ?_
  refine x_seq (x_region (s_val rfl (v_assign rfl) (x_nil (n_then (x_seq ?_)))))
  refine x_draw [(b, 0, _), (g, 0, _)] 18 mixed rfl (sc_own (sc_own sc_end)) (fun hS => ?_)
  refine d_take 0 rfl rfl (by kernel_rfl) (by kernel_rfl) (by kernel_rfl) rfl hS (v_move rfl) ?_
  refine d_take 1 rfl rfl (by kernel_rfl) (by kernel_rfl) (by kernel_rfl) rfl hS (v_nilCheck rfl) ?_
  refine d_take 2 rfl rfl (by kernel_rfl) (by kernel_rfl) (by kernel_rfl) rfl hS (v_fieldAddr rfl Tryz.underlying523 rfl Tryz.sizeOf515 rfl (by first | exact Nat.zero_add _ | rfl)) ?_
  refine d_take 3 rfl rfl (by kernel_rfl) (by kernel_rfl) (by kernel_rfl) rfl hS (v_load Tryz.isAgg515 rfl (by first | exact cell_sc0 (k := 0) rfl rfl | exact cell_sc0 (k := 1) rfl rfl)) ?_
  refine d_take 4 rfl rfl (by kernel_rfl) (by kernel_rfl) (by kernel_rfl) rfl hS (v_move rfl) ?_
  refine d_take 5 rfl rfl (by kernel_rfl) (by kernel_rfl) (by kernel_rfl) rfl hS (v_idx Tryz.underlying515 Tryz.sizeOf518 rfl rfl rfl hi (by first | exact Nat.zero_add _ | rfl)) ?_
  refine d_take 6 rfl rfl (by kernel_rfl) (by kernel_rfl) (by kernel_rfl) rfl hS (v_fieldAddr rfl Tryz.underlying518 rfl Tryz.sizeOf3 rfl (by first | exact Nat.zero_add _ | rfl)) ?_
  refine d_take 7 rfl rfl (by kernel_rfl) (by kernel_rfl) (by kernel_rfl) rfl hS (v_load Tryz.isAgg3 rfl (cell_sc0 (k := 1) rfl ((item_get its sp i 5 hi (by decide)).trans rfl))) ?_
  refine d_take 8 rfl rfl (by kernel_rfl) (by kernel_rfl) (by kernel_rfl) rfl hS (v_move rfl) ?_
  refine d_take 9 rfl rfl (by kernel_rfl) (by kernel_rfl) (by kernel_rfl) rfl hS (v_nilCheck rfl) ?_
  refine d_take 10 rfl rfl (by kernel_rfl) (by kernel_rfl) (by kernel_rfl) rfl hS (v_fieldAddr rfl Tryz.underlying523 rfl Tryz.sizeOf515 rfl (by first | exact Nat.zero_add _ | rfl)) ?_
  refine d_take 11 rfl rfl (by kernel_rfl) (by kernel_rfl) (by kernel_rfl) rfl hS (v_load Tryz.isAgg515 rfl (by first | exact cell_sc0 (k := 0) rfl rfl | exact cell_sc0 (k := 1) rfl rfl)) ?_
  refine d_take 12 rfl rfl (by kernel_rfl) (by kernel_rfl) (by kernel_rfl) rfl hS (v_move rfl) ?_
  refine d_take 13 rfl rfl (by kernel_rfl) (by kernel_rfl) (by kernel_rfl) rfl hS (v_idx Tryz.underlying515 Tryz.sizeOf518 rfl rfl rfl hk (by first | exact Nat.zero_add _ | rfl)) ?_
  refine d_take 14 rfl rfl (by kernel_rfl) (by kernel_rfl) (by kernel_rfl) rfl hS (v_fieldAddr rfl Tryz.underlying518 rfl Tryz.sizeOf3 rfl (by first | exact Nat.zero_add _ | rfl)) ?_
  refine d_take 15 rfl rfl (by kernel_rfl) (by kernel_rfl) (by kernel_rfl) rfl hS (v_load Tryz.isAgg3 rfl (cell_sc0 (k := 1) rfl ((item_get its sp k 5 hk (by decide)).trans rfl))) ?_
  refine d_take 16 rfl rfl (by kernel_rfl) (by kernel_rfl) (by kernel_rfl) rfl hS (v_lss rfl rfl) ?_
  refine d_take 17 rfl rfl (by kernel_rfl) (by kernel_rfl) (by kernel_rfl) rfl hS (v_assign rfl) ?_
  refine d_done (by kernel_rfl) ?_; clear hS
  refine n_then (x_ret (x_done (.inl rfl) (.cons (r_tmp rfl) .nil) ?_))
  exact ⟨_, ⟨rfl, rfl⟩, ent_rowN rfl rfl h1 h2 h3⟩
theorem rowSwap_spec (W0 : World) (R : List HP) (b : Nat) (its : List It) (tl : List Value) (i k : Nat) (hi : i < its.length) (hk : k < its.length) :
    Spec Tryz.prog W0 508 [.pointer (some ⟨b, 0, none⟩), .int .i64 i, .int .i64 k] (rowH b (its, tl) :: R) (fun v B => v = .tuple #[] ∧ B = rowH b (swapL its i k, tl) :: R) := by
  refine spec_rowN (pos_ne hi) fun g c sp h1 h2 h3 => ?_
  refine spec_body Tryz.func508 Tryz.ntmps508 rfl rfl ?_
  refine x_draw [(b, 0, _)] 28 mixed rfl (sc_own sc_end) (fun hS => ?_)
  refine d_take 0 rfl rfl (by kernel_rfl) (by kernel_rfl) (by kernel_rfl) rfl hS (v_move rfl) ?_
  refine d_take 1 rfl rfl (by kernel_rfl) (by kernel_rfl) (by kernel_rfl) rfl hS (v_nilCheck rfl) ?_
  refine d_take 2 rfl rfl (by kernel_rfl) (by kernel_rfl) (by kernel_rfl) rfl hS (v_fieldAddr rfl Tryz.underlying523 rfl Tryz.sizeOf515 rfl (by first | exact Nat.zero_add _ | rfl)) ?_
  refine d_take 3 rfl rfl (by kernel_rfl) (by kernel_rfl) (by kernel_rfl) rfl hS (v_load Tryz.isAgg515 rfl (cell_sc0 (k := 0) rfl rfl)) ?_
  refine d_take 4 rfl rfl (by kernel_rfl) (by kernel_rfl) (by kernel_rfl) rfl hS (v_move rfl) ?_
  refine d_take 5 rfl rfl (by kernel_rfl) (by kernel_rfl) (by kernel_rfl) rfl hS (v_move rfl) ?_
  refine d_take 6 rfl rfl (by kernel_rfl) (by kernel_rfl) (by kernel_rfl) rfl hS (v_nilCheck rfl) ?_
  refine d_take 7 rfl rfl (by kernel_rfl) (by kernel_rfl) (by kernel_rfl) rfl hS (v_fieldAddr rfl Tryz.underlying523 rfl Tryz.sizeOf515 rfl (by first | exact Nat.zero_add _ | rfl)) ?_
  refine d_take 8 rfl rfl (by kernel_rfl) (by kernel_rfl) (by kernel_rfl) rfl hS (v_load Tryz.isAgg515 rfl (cell_sc0 (k := 0) rfl rfl)) ?_
  refine d_take 9 rfl rfl (by kernel_rfl) (by kernel_rfl) (by kernel_rfl) rfl hS (v_move rfl) ?_
  refine d_take 10 rfl rfl (by kernel_rfl) (by kernel_rfl) (by kernel_rfl) rfl hS (v_move rfl) ?_
  refine d_take 11 rfl rfl (by kernel_rfl) (by kernel_rfl) (by kernel_rfl) rfl hS (v_nilCheck rfl) ?_
  refine d_take 12 rfl rfl (by kernel_rfl) (by kernel_rfl) (by kernel_rfl) rfl hS (v_fieldAddr rfl Tryz.underlying523 rfl Tryz.sizeOf515 rfl (by first | exact Nat.zero_add _ | rfl)) ?_
  refine d_take 13 rfl rfl (by kernel_rfl) (by kernel_rfl) (by kernel_rfl) rfl hS (v_load Tryz.isAgg515 rfl (cell_sc0 (k := 0) rfl rfl)) ?_
  refine d_take 14 rfl rfl (by kernel_rfl) (by kernel_rfl) (by kernel_rfl) rfl hS (v_move rfl) ?_
  refine d_take 15 rfl rfl (by kernel_rfl) (by kernel_rfl) (by kernel_rfl) rfl hS (v_idx Tryz.underlying515 Tryz.sizeOf518 rfl rfl rfl hk (by first | exact Nat.zero_add _ | rfl)) ?_
  refine d_take 17 rfl rfl (by kernel_rfl) (by kernel_rfl) (by kernel_rfl) rfl hS (v_move rfl) ?_
  refine d_take 18 rfl rfl (by kernel_rfl) (by kernel_rfl) (by kernel_rfl) rfl hS (v_nilCheck rfl) ?_
  refine d_take 19 rfl rfl (by kernel_rfl) (by kernel_rfl) (by kernel_rfl) rfl hS (v_fieldAddr rfl Tryz.underlying523 rfl Tryz.sizeOf515 rfl (by first | exact Nat.zero_add _ | rfl)) ?_
  refine d_take 20 rfl rfl (by kernel_rfl) (by kernel_rfl) (by kernel_rfl) rfl hS (v_load Tryz.isAgg515 rfl (cell_sc0 (k := 0) rfl rfl)) ?_
  refine d_take 21 rfl rfl (by kernel_rfl) (by kernel_rfl) (by kernel_rfl) rfl hS (v_move rfl) ?_
  refine d_take 22 rfl rfl (by kernel_rfl) (by kernel_rfl) (by kernel_rfl) rfl hS (v_idx Tryz.underlying515 Tryz.sizeOf518 rfl rfl rfl hi (by first | exact Nat.zero_add _ | rfl)) ?_
  refine d_all (is := [16, 23]) (by kernel_rfl) rfl ⟨?_, ?_, trivial⟩
  · skip
    refine dx_one rfl rfl (d_val (v_loadAgg Tryz.isAgg518 Tryz.sizeOf518 rfl (cells_part (item_row its sp k hk) rfl) rfl)) rfl ?_; clear hS
    rintro _ _ ⟨rfl, rfl⟩
    refine ⟨(sc_own sc_end), fun hS => ?_⟩
    refine d_one 23 (by kernel_rfl) rfl rfl (d_val (v_loadAgg Tryz.isAgg518 Tryz.sizeOf518 rfl (cells_part (item_row its sp i hi) rfl) rfl)) rfl ?_; clear hS
    rintro _ _ ⟨rfl, rfl⟩
    refine ⟨(sc_own sc_end), fun hS => ?_⟩
    refine d_take 24 rfl rfl (by kernel_rfl) (by kernel_rfl) (by kernel_rfl) rfl hS (v_idx Tryz.underlying515 Tryz.sizeOf518 rfl rfl rfl hi (by first | exact Nat.zero_add _ | rfl)) ?_
    refine d_one 25 (by kernel_rfl) rfl rfl (d_storeAgg Tryz.sizeOf518 rfl rfl rfl rfl (item_bd its sp i hi) (item_set its sp i (its.getD k default) hi)) rfl ?_; clear hS
    rintro _ _ rfl
    refine ⟨(sc_own sc_end), fun hS => ?_⟩
    refine d_take 26 rfl rfl (by kernel_rfl) (by kernel_rfl) (by kernel_rfl) rfl hS (v_idx Tryz.underlying515 Tryz.sizeOf518 rfl rfl rfl hk (by first | exact Nat.zero_add _ | rfl)) ?_
    refine d_one 27 (by kernel_rfl) rfl rfl (d_storeAgg Tryz.sizeOf518 rfl rfl rfl rfl (item_bd (its.set i (its.getD k default)) sp k (by simpa using hk)) (item_set (its.set i (its.getD k default)) sp k (its.getD i default) (by simpa using hk))) rfl ?_; clear hS
    rintro _ _ rfl
    refine ⟨(sc_own sc_end), fun hS => ?_⟩
    refine d_done (by kernel_rfl) ?_; clear hS
    refine x_done (.inr rfl) .nil ?_
    exact ⟨_, ⟨rfl, rfl⟩, ent_rowN rfl (by simp [swapL]) (by simpa [swapL] using h1) h2 (by simpa [swapL, flat_len itemV_len] using h3)⟩
  · skip
    refine dx_one rfl rfl (d_val (v_loadAgg Tryz.isAgg518 Tryz.sizeOf518 rfl (cells_part (item_row its sp i hi) rfl) rfl)) rfl ?_; clear hS
    rintro _ _ ⟨rfl, rfl⟩
    refine ⟨(sc_own sc_end), fun hS => ?_⟩
    refine d_one 16 (by kernel_rfl) rfl rfl (d_val (v_loadAgg Tryz.isAgg518 Tryz.sizeOf518 rfl (cells_part (item_row its sp k hk) rfl) rfl)) rfl ?_; clear hS
    rintro _ _ ⟨rfl, rfl⟩
    refine ⟨(sc_own sc_end), fun hS => ?_⟩
    refine d_take 24 rfl rfl (by kernel_rfl) (by kernel_rfl) (by kernel_rfl) rfl hS (v_idx Tryz.underlying515 Tryz.sizeOf518 rfl rfl rfl hi (by first | exact Nat.zero_add _ | rfl)) ?_
    refine d_one 25 (by kernel_rfl) rfl rfl (d_storeAgg Tryz.sizeOf518 rfl rfl rfl rfl (item_bd its sp i hi) (item_set its sp i (its.getD k default) hi)) rfl ?_; clear hS
    rintro _ _ rfl
    refine ⟨(sc_own sc_end), fun hS => ?_⟩
    refine d_take 26 rfl rfl (by kernel_rfl) (by kernel_rfl) (by kernel_rfl) rfl hS (v_idx Tryz.underlying515 Tryz.sizeOf518 rfl rfl rfl hk (by first | exact Nat.zero_add _ | rfl)) ?_
    refine d_one 27 (by kernel_rfl) rfl rfl (d_storeAgg Tryz.sizeOf518 rfl rfl rfl rfl (item_bd (its.set i (its.getD k default)) sp k (by simpa using hk)) (item_set (its.set i (its.getD k default)) sp k (its.getD i default) (by simpa using hk))) rfl ?_; clear hS
    rintro _ _ rfl
    refine ⟨(sc_own sc_end), fun hS => ?_⟩
    refine d_done (by kernel_rfl) ?_; clear hS
    refine x_done (.inr rfl) .nil ?_
    exact ⟨_, ⟨rfl, rfl⟩, ent_rowN rfl (by simp [swapL]) (by simpa [swapL] using h1) h2 (by simpa [swapL, flat_len itemV_len] using h3)⟩
theorem rowPop_spec (W0 : World) (R : List HP) (b : Nat) (its : List It) (x : It) (tl : List Value) :
    Spec Tryz.prog W0 506 [.pointer (some ⟨b, 0, none⟩)] (rowH b (its ++ [x], tl) :: R) (fun v B => v = .iface 518 (.agg (itemV x).toArray) ∧ B = rowH b (its, tl) :: R) := by
  refine spec_rowN (by simp) fun g c sp h1 h2 h3 => ?_
  have hl : (its ++ [x]).length = its.length + 1 := by simp
  rw [hl] at h1 ⊢
  have hg : (its ++ [x]).getD its.length default = x := by simp [List.getD]
  have hr := item_row (its ++ [x]) sp its.length (by omega)
  rw [hg] at hr
  have he : (its ++ [x]).flatMap itemV ++ sp = its.flatMap itemV ++ (itemV x ++ sp) := by simp
  refine spec_body Tryz.func506 Tryz.ntmps506 rfl rfl ?_
  refine x_seq (x_region (s_val rfl (v_assign rfl) (x_nil (n_then (x_seq (x_region (s_val rfl (v_move rfl) (s_val rfl (v_nilCheck rfl) ?_))))))))
  refine s_val rfl (v_fieldAddr rfl Tryz.underlying523 rfl Tryz.sizeOf515 rfl (by first | exact Nat.zero_add _ | rfl)) ?_
  refine s_val rfl (v_load Tryz.isAgg515 rfl (cell_own rfl)) ?_
  refine s_val rfl (v_len_slice Tryz.underlying515 rfl) ?_
  refine s_val rfl (v_sub rfl rfl (by rw [w64 (by simp only [maxLen] at h2; omega)]; omega : IntKind.wrap .i64 (((its.length + 1 : Nat) : Int) - 1) = ((its.length : Nat) : Int))) ?_
  refine s_val rfl (v_assign rfl) (x_nil (n_then (x_seq (x_region (s_val rfl (v_move rfl) (s_val rfl (v_nilCheck rfl) ?_))))))
  refine s_val rfl (v_fieldAddr rfl Tryz.underlying523 rfl Tryz.sizeOf515 rfl (by first | exact Nat.zero_add _ | rfl)) ?_
  refine s_val rfl (v_load Tryz.isAgg515 rfl (cell_own rfl)) ?_
  refine s_val rfl (v_move rfl) ?_
  refine s_val rfl (v_idx Tryz.underlying515 Tryz.sizeOf518 rfl rfl rfl (by omega) (by first | exact Nat.zero_add _ | rfl)) ?_
  refine s_val rfl (v_loadAgg Tryz.isAgg518 Tryz.sizeOf518 rfl (cells_part hr rfl) rfl) ?_
  refine s_do rfl (d_allocA Tryz.zeroValue518) ?_
  rintro _ _ ⟨b1, rfl, rfl⟩
  refine s_do0 (d_storeAll Tryz.sizeOf518 rfl rfl rfl rfl rfl) ?_
  rintro _ _ rfl
  refine x_nil (n_then (x_seq (x_region (s_val rfl (v_move rfl) (s_val rfl (v_move rfl) (s_val rfl (v_nilCheck rfl) ?_))))))
  refine s_val rfl (v_fieldAddr rfl Tryz.underlying523 rfl Tryz.sizeOf515 rfl (by first | exact Nat.zero_add _ | rfl)) ?_
  refine s_val rfl (v_load Tryz.isAgg515 rfl (cell_own rfl)) ?_
  refine s_val rfl (v_move rfl) ?_
  refine s_val rfl (v_sliceH Tryz.underlying515 Tryz.sizeOf518 rfl rfl rfl (by omega)) ?_
  refine s_val rfl (v_nilCheck rfl) ?_
  refine s_val rfl (v_fieldAddr rfl Tryz.underlying523 rfl Tryz.sizeOf515 rfl (by first | exact Nat.zero_add _ | rfl)) ?_
  refine s_do0 (d_store Tryz.sizeOf515 rfl rfl rfl (Nat.le_of_ble_eq_true rfl) SetL.eq) ?_
  rintro _ _ rfl
  refine x_nil (n_then (x_seq (x_region (s_val rfl (v_loadAll Tryz.isAgg518 Tryz.sizeOf518 rfl rfl) ?_))))
  refine s_val rfl (v_mkI Tryz.underlying518 (fun _ h => nomatch h) rfl) ?_
  refine s_val rfl (v_assign rfl) (x_nil (n_then (x_ret (x_done (.inl rfl) (.cons (r_tmp rfl) .nil) ?_))))
  rw [he]
  exact ⟨_, ⟨rfl, rfl⟩, ent_rowN (sp := itemV x ++ sp) rfl rfl (by omega) h2 (by rw [← he]; exact h3)⟩
theorem rowPush_spec (W0 : World) (R : List HP) (b : Nat) (its : List It) (x : It) (tl : List Value) (hn : its.length < 1000) :
    Spec Tryz.prog W0 507 [.pointer (some ⟨b, 0, none⟩), .iface 518 (.agg (itemV x).toArray)] (rowH b (its, tl) :: R) (fun v B => v = .tuple #[] ∧ B = rowH b (its ++ [x], tl) :: R) := by
  refine spec_row fun a c => ?_
  have he : its.flatMap itemV ++ [itemV x].flatten = (its ++ [x]).flatMap itemV := by simp
  refine spec_body Tryz.func507 Tryz.ntmps507 rfl rfl ?_
  refine x_draw [] 12 mixed rfl sc_end (fun hS => ?_)
  refine d_take 0 rfl rfl (by kernel_rfl) (by kernel_rfl) (by kernel_rfl) rfl hS (v_move rfl) ?_
  refine d_take 1 rfl rfl (by kernel_rfl) (by kernel_rfl) (by kernel_rfl) rfl hS (v_move rfl) ?_
  refine d_take 2 rfl rfl (by kernel_rfl) (by kernel_rfl) (by kernel_rfl) rfl hS (v_nilCheck rfl) ?_
  refine d_take 3 rfl rfl (by kernel_rfl) (by kernel_rfl) (by kernel_rfl) rfl hS (v_fieldAddr rfl Tryz.underlying523 rfl Tryz.sizeOf515 rfl (by first | exact Nat.zero_add _ | rfl)) ?_
  refine d_take 5 rfl rfl (by kernel_rfl) (by kernel_rfl) (by kernel_rfl) rfl hS (v_move rfl) ?_
  refine d_take 6 rfl rfl (by kernel_rfl) (by kernel_rfl) (by kernel_rfl) rfl hS (v_assert Tryz.underlying518 (fun _ h => nomatch h) rfl) ?_
  refine d_all (is := [4, 7]) (by kernel_rfl) rfl ⟨?_, ?_, trivial⟩
  · skip
    refine dx_one rfl rfl (d_val (v_load Tryz.isAgg515 rfl (cell_own rfl))) rfl ?_; clear hS
    rintro _ _ ⟨rfl, rfl⟩
    refine ⟨sc_end, fun hS => ?_⟩
    refine d_one 7 (by kernel_rfl) rfl rfl (d_sliceAgg Tryz.underlying515 Tryz.sizeOf518 Tryz.zeroValue518 rfl (elsK_cons rfl rfl elsK_nil) rfl (by decide) (by decide) (by decide)) rfl ?_; clear hS
    rintro _ _ ⟨b1, rfl, rfl⟩
    refine ⟨sc_end, fun hS => ?_⟩
    refine d_one 8 (by kernel_rfl) rfl rfl (d_append (sz := 6) (by_ := 48) (info := Tryz.t518) Tryz.underlying515 (by kernel_rfl) rfl rfl rfl rfl (by decide) rfl rfl cells_all rfl rfl (by simp only [maxLen]; omega) (by omega)) rfl ?_; clear hS
    rintro _ _ ⟨a1, c1, rfl, rfl⟩
    refine ⟨sc_end, fun hS => ?_⟩
    refine d_take 9 rfl rfl (by kernel_rfl) (by kernel_rfl) (by kernel_rfl) rfl hS (v_nilCheck rfl) ?_
    refine d_take 10 rfl rfl (by kernel_rfl) (by kernel_rfl) (by kernel_rfl) rfl hS (v_fieldAddr rfl Tryz.underlying523 rfl Tryz.sizeOf515 rfl (by first | exact Nat.zero_add _ | rfl)) ?_
    refine d_one 11 (by kernel_rfl) rfl rfl (d_store Tryz.sizeOf515 rfl rfl rfl (Nat.le_of_ble_eq_true rfl) SetL.eq) rfl ?_; clear hS
    rintro _ _ rfl
    refine ⟨sc_end, fun hS => ?_⟩
    refine d_done (by kernel_rfl) ?_; clear hS
    refine x_done (.inr rfl) .nil ?_
    rw [he]
    exact ⟨_, ⟨rfl, rfl⟩, ent_row (its := its ++ [x]) (by simp)⟩
  · skip
    refine dx_one rfl rfl (d_sliceAgg Tryz.underlying515 Tryz.sizeOf518 Tryz.zeroValue518 rfl (elsK_cons rfl rfl elsK_nil) rfl (by decide) (by decide) (by decide)) rfl ?_; clear hS
    rintro _ _ ⟨b1, rfl, rfl⟩
    refine ⟨sc_end, fun hS => ?_⟩
    refine d_one 4 (by kernel_rfl) rfl rfl (d_val (v_load Tryz.isAgg515 rfl (cell_own rfl))) rfl ?_; clear hS
    rintro _ _ ⟨rfl, rfl⟩
    refine ⟨sc_end, fun hS => ?_⟩
    refine d_one 8 (by kernel_rfl) rfl rfl (d_append (sz := 6) (by_ := 48) (info := Tryz.t518) Tryz.underlying515 (by kernel_rfl) rfl rfl rfl rfl (by decide) rfl rfl cells_all rfl rfl (by simp only [maxLen]; omega) (by omega)) rfl ?_; clear hS
    rintro _ _ ⟨a1, c1, rfl, rfl⟩
    refine ⟨sc_end, fun hS => ?_⟩
    refine d_take 9 rfl rfl (by kernel_rfl) (by kernel_rfl) (by kernel_rfl) rfl hS (v_nilCheck rfl) ?_
    refine d_take 10 rfl rfl (by kernel_rfl) (by kernel_rfl) (by kernel_rfl) rfl hS (v_fieldAddr rfl Tryz.underlying523 rfl Tryz.sizeOf515 rfl (by first | exact Nat.zero_add _ | rfl)) ?_
    refine d_one 11 (by kernel_rfl) rfl rfl (d_store Tryz.sizeOf515 rfl rfl rfl (Nat.le_of_ble_eq_true rfl) SetL.eq) rfl ?_; clear hS
    rintro _ _ rfl
    refine ⟨sc_end, fun hS => ?_⟩
    refine d_done (by kernel_rfl) ?_; clear hS
    refine x_done (.inr rfl) .nil ?_
    rw [he]
    exact ⟨_, ⟨rfl, rfl⟩, ent_row (its := its ++ [x]) (by simp)⟩
section
variable (w : World) (a : Addr)
theorem m_len : (method (Tryz.prog.types.size + Made.depth) 590 (.pointer (some a)) "Len").run Tryz.prog w = .ok (492, .pointer (some a)) w := by kernel_rfl
theorem m_less : (method (Tryz.prog.types.size + Made.depth) 590 (.pointer (some a)) "Less").run Tryz.prog w = .ok (505, .pointer (some a)) w := by kernel_rfl
theorem m_swap : (method (Tryz.prog.types.size + Made.depth) 590 (.pointer (some a)) "Swap").run Tryz.prog w = .ok (508, .pointer (some a)) w := by kernel_rfl
theorem m_push : (method (Tryz.prog.types.size + Made.depth) 590 (.pointer (some a)) "Push").run Tryz.prog w = .ok (507, .pointer (some a)) w := by kernel_rfl
theorem m_pop : (method (Tryz.prog.types.size + Made.depth) 590 (.pointer (some a)) "Pop").run Tryz.prog w = .ok (506, .pointer (some a)) w := by kernel_rfl
end
def rowI (b : Nat) : Value := .iface 590 (.pointer (some ⟨b, 0, none⟩))
theorem par_quo {j : Nat} (h : j < 1000) : IntKind.wrap .i64 (Int.tdiv ((j : Int) - 1) 2) = (((j - 1) / 2 : Nat) : Int) := by
  by_cases h0 : j = 0
  · subst h0; decide
  · obtain ⟨k, rfl⟩ : ∃ k, j = k + 1 := ⟨j - 1, by omega⟩
    have e : ((k + 1 : Nat) : Int) - 1 = (k : Int) := by omega
    rw [e, Int.tdiv_eq_ediv_of_nonneg (by omega), w64 (by omega)]; simp
theorem getD_swap_ge {l l0 : List It} {i j n : Nat} (hi : i < n) (hj : j < n) (hn : n ≤ l.length) (h : ∀ x, n ≤ x → l.getD x default = l0.getD x default) : ∀ x, n ≤ x → (swapL l i j).getD x default = l0.getD x default := fun x hx => by
  rw [getD_swapL (by omega) (by omega), if_neg (by omega), if_neg (by omega)]; exact h x hx
theorem heapUp_spec (W0 : World) (R : List HP) (b : Nat) (its : List It) (tl : List Value) (j n : Nat) (hn : n ≤ its.length) (hN : n < 1000) (hj : j < n) (hU : Up its j n) :
    Spec Tryz.prog W0 293 [rowI b, .int .i64 j] (rowH b (its, tl) :: R) (fun v B => v = .tuple #[] ∧ ∃ its', B = rowH b (its', tl) :: R ∧ its'.Perm its ∧ Heap its' n ∧ ∀ x, n ≤ x → its'.getD x default = its.getD x default) := by
  refine spec_body Tryz.func293 Tryz.ntmps293 rfl rfl ?_
  refine x_block ?_
  refine x_loop (fun X : List It × Nat => X.1.Perm its ∧ X.2 < n ∧ Up X.1 X.2 n ∧ ∀ x, n ≤ x → X.1.getD x default = its.getD x default) (fun X => [(0, rowI b), (1, .int .i64 X.2)]) (fun X => rowH b (X.1, tl) :: R) (fun X => X.2) (its, j) ?_ ?_ ?_ ?_
  · exact ⟨List.Perm.refl _, hj, hU, fun _ _ => rfl⟩
  · repeat (first | exact sub_nil | refine sub_cons rfl ?_)
  · exact inferInstance
  · intro ⟨l, j⟩ ⟨hp, hj, hU, ht⟩
    have hlen := hp.length_eq
    simp only at hj hU ht hp hlen ⊢
    refine x_block (x_seq (x_region (s_val rfl (v_move rfl) ?_)))
    refine s_val rfl (v_sub rfl rfl (by first | exact w64 (by omega) | rfl)) ?_
    refine s_val rfl (v_quo rfl rfl (by decide) (par_quo (by omega))) ?_
    refine s_val rfl (v_assign rfl) (x_nil (n_then (x_seq (x_seq (x_region (s_val rfl (v_move rfl) (s_val rfl (v_move rfl) (s_val rfl (v_eql rfl rfl) (s_val rfl (v_move rfl) ?_)))))))))
    refine s_or rfl rfl rfl ?_ ?_
    · intro g1_4
      refine s_no rfl rfl rfl rfl (s_no rfl rfl rfl rfl (s_no rfl rfl rfl rfl (s_no rfl rfl rfl rfl (s_val rfl (v_pick_t rfl rfl) (x_nil (n_then (x_ift rfl (x_exit (e_then (e_block_ne rfl (e_then (e_block (x_done (.inr rfl) .nil ?_)))))))))))))
      exact ⟨_, ⟨rfl, l, rfl, hp, up_heap hU (by intro _; first | omega | (simp at c1; omega)), ht⟩, inferInstance⟩
    · intro g1_4
      refine s_val rfl (v_move rfl) (s_yes rfl rfl (s_val rfl (v_move rfl) (s_yes rfl rfl (s_val rfl (v_move rfl) (s_yes rfl rfl ?_)))))
      refine s_do rfl (d_invoke1 rfl ((fun w => m_less w _)) Tryz.call505 rfl (rowLess_spec W0 _ b l tl j ((j - 1) / 2) (by omega) (by omega))) ?_
      rintro _ B_ ⟨rfl, hB_⟩
      obtain rfl := hB_.symm
      refine s_yes rfl rfl (s_val rfl (v_not rfl) (s_val rfl (v_pick_f rfl rfl) (x_nil (n_then ?_))))
      refine x_if rfl ?_ ?_
      · intro c1
        refine x_exit (e_then (e_block_ne rfl (e_then (e_block (x_done (.inr rfl) .nil ?_)))))
        exact ⟨_, ⟨rfl, l, rfl, hp, up_heap hU (by intro _; first | omega | (simp at c1; omega)), ht⟩, inferInstance⟩
      · intro c1
        replace c1 : us l j < us l ((j - 1) / 2) := by simpa using c1
        refine x_skip (n_then (x_seq (x_region (s_val rfl (v_move rfl) (s_val rfl (v_move rfl) (s_val rfl (v_move rfl) ?_))))))
        refine s_do rfl (d_invoke1 rfl ((fun w => m_swap w _)) Tryz.call508 rfl (rowSwap_spec W0 _ b l tl ((j - 1) / 2) j (by omega) (by omega))) ?_
        rintro _ B_ ⟨rfl, hB_⟩
        obtain rfl := hB_.symm
        refine x_nil (n_then (x_region (s_val rfl (v_move rfl) (s_val rfl (v_assign rfl) (x_nil (n_block (n_then ?_)))))))
        refine inv_intro (swapL l ((j - 1) / 2) j, (j - 1) / 2) ?_ ?_ ?_ ?_
        · exact ⟨(swapL_perm (by omega) (by omega)).trans hp, by show (j - 1) / 2 < n; omega, up_swap hU (by omega) hj (by omega) c1, getD_swap_ge (by omega) hj (by omega) ht⟩
        · show (j - 1) / 2 < j; omega
        · repeat (first | exact sub_nil | refine sub_cons rfl ?_)
        · exact inferInstance
theorem heapDown_spec (W0 : World) (R : List HP) (b : Nat) (its : List It) (tl : List Value) (i0 n : Nat) (hn : n ≤ its.length) (hN : n < 1000) (hi : i0 ≤ n) (hH : Hole its i0 n) :
    Spec Tryz.prog W0 361 [rowI b, .int .i64 i0, .int .i64 n] (rowH b (its, tl) :: R) (fun v B => ∃ l m, v = .bool m ∧ B = rowH b (l, tl) :: R ∧ Down its l i0 n m) := by
  refine spec_body Tryz.func361 Tryz.ntmps361 rfl rfl ?_
  refine x_seq (x_region (s_val rfl (v_assign rfl) (x_nil (n_then (x_seq (x_region (s_val rfl (v_move rfl) (s_val rfl (v_assign rfl) (x_nil (n_then (x_seq (x_block ?_))))))))))))
  refine x_loop (fun X : List It × Nat => X.1.Perm its ∧ i0 ≤ X.2 ∧ Hole X.1 X.2 n ∧ (∀ x, n ≤ x → X.1.getD x default = its.getD x default) ∧ (X.2 = i0 → X.1 = its) ∧ (i0 < X.2 → us X.1 ((X.2 - 1) / 2) ≤ us X.1 X.2) ∧ X.2 ≤ n) (fun X => [(0, rowI b), (1, .int .i64 i0), (2, .int .i64 n), (7, .int .i64 X.2)]) (fun X => rowH b (X.1, tl) :: R) (fun X => n - X.2) (its, i0) ?_ ?_ ?_ ?_
  · exact ⟨List.Perm.refl _, Nat.le_refl _, hH, fun _ _ => rfl, fun _ => rfl, fun h => absurd h (Nat.lt_irrefl _), hi⟩
  · repeat (first | exact sub_nil | refine sub_cons rfl ?_)
  · exact inferInstance
  · intro ⟨l, i⟩ ⟨hp, hi0, hl, ht, he, hg, hin⟩
    have hlen := hp.length_eq
    simp only at hp hi0 hl ht he hg hin hlen ⊢
    refine x_block (x_seq (x_region (s_val rfl (v_move rfl) ?_)))
    refine s_val rfl (v_mul rfl rfl (by first | exact w64 (by omega) | rfl)) ?_
    refine s_val rfl (v_add rfl rfl (by rw [w64 (by omega)]; omega : IntKind.wrap .i64 (2 * (i : Int) + 1) = ((2 * i + 1 : Nat) : Int))) ?_
    refine s_val rfl (v_assign rfl) (x_nil (n_then (x_seq (x_seq (x_region (s_val rfl (v_move rfl) (s_val rfl (v_move rfl) (s_val rfl (v_geq rfl rfl) (s_val rfl (v_move rfl) ?_)))))))))
    refine s_or rfl rfl rfl ?_ ?_
    · intro g3_4
      refine s_no rfl rfl rfl rfl (s_val rfl (v_pick_t rfl rfl) (x_nil (n_then (x_ift rfl (x_exit (e_then (e_block_ne rfl (e_then (e_block (n_then (x_seq (x_region (s_val rfl (v_move rfl) (s_val rfl (v_move rfl) (s_val rfl (v_gtr rfl rfl) (s_val rfl (v_assign rfl) (x_nil (n_then (x_ret (x_done (.inl rfl) (.cons (r_tmp rfl) .nil) ?_))))))))))))))))))))
      refine ⟨_, ⟨l, decide (i0 < i), by simp [pack], rfl, down_done hp hi0 hl ht he hg ?_⟩, inferInstance⟩
      first | (intro c hc h0 h1; exfalso; omega) | (intro c hc h0 h1; have := hmin c hc h0 h1; simp at c8; omega)
    · intro g3_4
      refine s_val rfl (v_move rfl) (s_yes rfl rfl (s_val rfl (v_lss rfl rfl) (s_val rfl (v_pick_f rfl rfl) (x_nil (n_then ?_)))))
      refine x_if rfl ?_ ?_
      · intro c3
        omega
      · intro c3
        refine x_skip (n_then (x_seq (x_region (s_val rfl (v_move rfl) (s_val rfl (v_assign rfl) (x_nil (n_then ?_)))))))
        refine x_cut (fun j : Nat => (j - 1) / 2 = i ∧ 0 < j ∧ j < n ∧ ∀ c, c < n → 0 < c → (c - 1) / 2 = i → us l j ≤ us l c) (fun j => [(0, rowI b), (1, .int .i64 i0), (2, .int .i64 n), (7, .int .i64 i), (9, .int .i64 j)]) (fun j => rowH b (l, tl) :: R) ?_ ?_
        · skip
          refine x_seq (x_region (s_val rfl (v_move rfl) ?_))
          refine s_val rfl (v_add rfl rfl (by rw [w64 (by omega)]; omega : IntKind.wrap .i64 (((2 * i + 1 : Nat) : Int) + 1) = ((2 * i + 2 : Nat) : Int))) ?_
          refine s_val rfl (v_assign rfl) (x_nil (n_then (x_seq (x_region (s_val rfl (v_move rfl) (s_val rfl (v_move rfl) (s_val rfl (v_lss rfl rfl) (s_val rfl (v_move rfl) ?_))))))))
          refine s_and rfl rfl rfl ?_ ?_
          · intro g6_4
            refine s_val rfl (v_move rfl) (s_yes rfl rfl (s_val rfl (v_move rfl) (s_yes rfl rfl (s_val rfl (v_move rfl) (s_yes rfl rfl ?_)))))
            refine s_do rfl (d_invoke1 rfl ((fun w => m_less w _)) Tryz.call505 rfl (rowLess_spec W0 _ b l tl (2 * i + 2) (2 * i + 1) (by omega) (by omega))) ?_
            rintro _ B_ ⟨rfl, hB_⟩
            obtain rfl := hB_.symm
            refine s_val rfl (v_pick_t rfl rfl) (x_nil (n_then ?_))
            refine x_if rfl ?_ ?_
            · intro c6
              refine x_region (s_val rfl (v_move rfl) (s_val rfl (v_assign rfl) (x_nil (n_then ?_))))
              refine mid_intro (2 * i + 2) ?_ ?_ ?_
              · refine ⟨by omega, by omega, by omega, fun c hc h0 h1 => ?_⟩
                have : c = 2 * i + 1 ∨ c = 2 * i + 2 := by omega
                rcases this with rfl | rfl <;> omega
              · repeat (first | exact sub_nil | refine sub_cons rfl ?_)
              · exact inferInstance
            · intro c6
              refine x_skip (n_then ?_)
              refine mid_intro (2 * i + 1) ?_ ?_ ?_
              · refine ⟨by omega, by omega, by omega, fun c hc h0 h1 => ?_⟩
                have : c = 2 * i + 1 ∨ c = 2 * i + 2 := by omega
                rcases this with rfl | rfl <;> omega
              · repeat (first | exact sub_nil | refine sub_cons rfl ?_)
              · exact inferInstance
          · intro g6_4
            refine s_no rfl rfl rfl rfl (s_no rfl rfl rfl rfl (s_no rfl rfl rfl rfl (s_val rfl (v_pick_f rfl rfl) (x_nil (n_then (x_iff rfl (x_skip (n_then ?_))))))))
            refine mid_intro (2 * i + 1) ?_ ?_ ?_
            · refine ⟨by omega, by omega, by omega, fun c hc h0 h1 => ?_⟩
              have : c = 2 * i + 1 ∨ c = 2 * i + 2 := by omega
              rcases this with rfl | rfl <;> omega
            · repeat (first | exact sub_nil | refine sub_cons rfl ?_)
            · exact inferInstance
        · intro j ⟨hj, hj0, hjn, hmin⟩
          refine x_seq (x_seq (x_region (s_val rfl (v_move rfl) (s_val rfl (v_move rfl) (s_val rfl (v_move rfl) ?_)))))
          refine s_do rfl (d_invoke1 rfl ((fun w => m_less w _)) Tryz.call505 rfl (rowLess_spec W0 _ b l tl j i (by omega) (by omega))) ?_
          rintro _ B_ ⟨rfl, hB_⟩
          obtain rfl := hB_.symm
          refine s_val rfl (v_not rfl) (x_nil (n_then ?_))
          refine x_if rfl ?_ ?_
          · intro c8
            refine x_exit (e_then (e_block_ne rfl (e_then (e_block (n_then (x_seq (x_region (s_val rfl (v_move rfl) (s_val rfl (v_move rfl) (s_val rfl (v_gtr rfl rfl) (s_val rfl (v_assign rfl) (x_nil (n_then (x_ret (x_done (.inl rfl) (.cons (r_tmp rfl) .nil) ?_)))))))))))))))
            refine ⟨_, ⟨l, decide (i0 < i), by simp [pack], rfl, down_done hp hi0 hl ht he hg ?_⟩, inferInstance⟩
            first | (intro c hc h0 h1; exfalso; omega) | (intro c hc h0 h1; have := hmin c hc h0 h1; simp at c8; omega)
          · intro c8
            replace c8 : us l j < us l i := by simpa using c8
            refine x_skip (n_then (x_seq (x_region (s_val rfl (v_move rfl) (s_val rfl (v_move rfl) (s_val rfl (v_move rfl) ?_))))))
            refine s_do rfl (d_invoke1 rfl ((fun w => m_swap w _)) Tryz.call508 rfl (rowSwap_spec W0 _ b l tl i j (by omega) (by omega))) ?_
            rintro _ B_ ⟨rfl, hB_⟩
            obtain rfl := hB_.symm
            refine x_nil (n_then (x_region (s_val rfl (v_move rfl) (s_val rfl (v_assign rfl) (x_nil (n_block (n_then ?_)))))))
            refine inv_intro (swapL l i j, j) ?_ ?_ ?_ ?_
            · have hs := hole_swap hl (by omega) hjn hj hj0 c8 hmin
              exact ⟨(swapL_perm (by omega) (by omega)).trans hp, by show i0 ≤ j; omega, hs.1, getD_swap_ge (by omega) hjn (by omega) ht, by show j = i0 → _; omega, fun _ => hs.2, by show j ≤ n; omega⟩
            · show n - j < n - i; omega
            · repeat (first | exact sub_nil | refine sub_cons rfl ?_)
            · exact inferInstance
end Go.Proofs.YtnidndllknffgaaGreat
namespace Go.Proofs.YtnidndllknffgaaGreat
open Go.RowKit
set_option linter.unusedSimpArgs false
set_option linter.unusedVariables false
set_option maxRecDepth 20000
theorem push_up {its : List It} {x : It} (h : Heap its its.length) : Up (its ++ [x]) its.length (its.length + 1) := by
  have e : ∀ c, c < its.length → us (its ++ [x]) c = us its c := fun c hc => by
    unfold us; simp only [List.getD_eq_getElem?_getD]; rw [List.getElem?_append_left hc]
  intro c hc h0
  refine ⟨fun h1 => ?_, fun h1 h2 => by omega⟩
  rw [e c (by omega), e _ (by omega)]; exact h c (by omega) h0
theorem heapPush_spec (W0 : World) (R : List HP) (b : Nat) (its : List It) (x : It) (tl : List Value) (hN : its.length < 900) (hh : Heap its its.length) :
    Spec Tryz.prog W0 176 [rowI b, .iface 518 (.agg (itemV x).toArray)] (rowH b (its, tl) :: R) (fun v B => v = .tuple #[] ∧ ∃ its', B = rowH b (its', tl) :: R ∧ its'.Perm (its ++ [x]) ∧ Heap its' its'.length) := by
  have hl : (its ++ [x]).length = its.length + 1 := by simp
  refine spec_body Tryz.func176 Tryz.ntmps176 rfl rfl ?_
  refine x_seq (x_region (s_val rfl (v_move rfl) (s_val rfl (v_move rfl) ?_)))
  refine s_do rfl (d_invoke1 rfl ((fun w => m_push w _)) Tryz.call507 rfl (rowPush_spec W0 _ b its x tl (by omega))) ?_
  rintro _ B_ ⟨rfl, hB_⟩
  obtain rfl := hB_.symm
  refine x_nil (n_then (x_region (s_val rfl (v_move rfl) (s_val rfl (v_move rfl) ?_))))
  refine s_do rfl (d_invoke1 rfl ((fun w => m_len w _)) Tryz.call492 rfl (rowLen_spec W0 _ b (its ++ [x]) tl)) ?_
  rintro _ B_ ⟨rfl, hB_⟩
  obtain rfl := hB_.symm
  refine s_val rfl (v_sub rfl rfl (by rw [w64 (by omega)]; omega : IntKind.wrap .i64 (((its ++ [x]).length : Nat) - 1 : Int) = ((its.length : Nat) : Int))) ?_
  refine s_do rfl (d_call1 Tryz.call293 rfl (heapUp_spec W0 _ b (its ++ [x]) tl its.length (its.length + 1) (by omega) (by omega) (by omega) (push_up hh))) ?_
  rintro _ _ ⟨rfl, l', rfl, hp, hh', _⟩
  refine x_nil (x_done (.inr rfl) .nil ?_)
  exact ⟨_, ⟨rfl, l', rfl, hp, by rw [hp.length_eq, hl]; exact hh'⟩, inferInstance⟩
theorem last_split {l : List It} {n : Nat} (h : l.length = n + 1) : ∃ l' x, l = l' ++ [x] ∧ l'.length = n ∧ x = l.getD n default := by
  have hne : l ≠ [] := fun e => by rw [e] at h; simp at h
  refine ⟨l.dropLast, l.getLast hne, (List.dropLast_concat_getLast hne).symm, by simp [h], ?_⟩
  rw [List.getLast_eq_getElem]
  simp [List.getD, h]
theorem heap_front {l : List It} {x : It} {n : Nat} (h : Heap (l ++ [x]) n) (hn : n ≤ l.length) : Heap l n :=
  heap_congr (fun i hi => by simp only [List.getD_eq_getElem?_getD]; rw [List.getElem?_append_left (by omega)]) h
theorem heapPop_spec (W0 : World) (R : List HP) (b : Nat) (its : List It) (tl : List Value) (hN : its.length < 900) (h0 : its ≠ []) (hh : Heap its its.length) :
    Spec Tryz.prog W0 300 [rowI b] (rowH b (its, tl) :: R) (fun v B => ∃ x its', v = .iface 518 (.agg (itemV x).toArray) ∧ B = rowH b (its', tl) :: R ∧ (its' ++ [x]).Perm its ∧ Heap its' its'.length ∧ ∀ y ∈ its, x.u ≤ y.u) := by
  obtain ⟨n, hn⟩ : ∃ n, its.length = n + 1 := ⟨its.length - 1, by have := List.length_pos_iff.2 h0; omega⟩
  have hs : Hole (swapL its 0 n) 0 n := fun c hc h0 => ⟨fun h1 h2 => by
    rw [us_swapL (by omega) (by omega), us_swapL (by omega) (by omega), if_neg h2, if_neg h1, if_neg (by omega), if_neg (by omega)]
    exact hh c (by omega) h0, fun _ h => by omega⟩
  have hsl := swapL_length its 0 n
  refine spec_body Tryz.func300 Tryz.ntmps300 rfl rfl ?_
  refine x_seq (x_region (s_val rfl (v_assign rfl) (x_nil (n_then (x_seq (x_region (s_val rfl (v_move rfl) ?_)))))))
  refine s_do rfl (d_invoke1 rfl ((fun w => m_len w _)) Tryz.call492 rfl (rowLen_spec W0 _ b its tl)) ?_
  rintro _ B_ ⟨rfl, hB_⟩
  obtain rfl := hB_.symm
  refine s_val rfl (v_sub rfl rfl (by rw [w64 (by omega)]; omega : IntKind.wrap .i64 ((its.length : Nat) - 1 : Int) = ((n : Nat) : Int))) ?_
  refine s_val rfl (v_assign rfl) (x_nil (n_then (x_seq (x_region (s_val rfl (v_move rfl) (s_val rfl (v_move rfl) ?_))))))
  refine s_do rfl (d_invoke1 rfl ((fun w => m_swap w _)) Tryz.call508 rfl (rowSwap_spec W0 _ b its tl 0 n (by omega) (by omega))) ?_
  rintro _ B_ ⟨rfl, hB_⟩
  obtain rfl := hB_.symm
  refine x_nil (n_then (x_seq (x_region (s_val rfl (v_move rfl) (s_val rfl (v_move rfl) ?_)))))
  refine s_do rfl (d_call1 Tryz.call361 rfl (heapDown_spec W0 _ b (swapL its 0 n) tl 0 n (by omega) (by omega) (by omega) hs)) ?_
  rintro _ _ ⟨l, m, rfl, rfl, hD⟩
  have hll := hD.perm.length_eq
  obtain ⟨l', x, rfl, hl', hx⟩ := last_split (l := l) (n := n) (by omega)
  have hx0 : x = its.getD 0 default := by
    rw [hx, hD.tail n (Nat.le_refl _), getD_swapL (by omega) (by omega)]; split
    · rename_i e; subst e; rfl
    · rw [if_pos rfl]
  have hp : (l' ++ [x]).Perm its := hD.perm.trans (swapL_perm (by omega) (by omega))
  have hH : Heap (l' ++ [x]) n := by
    cases m with
    | true => exact hD.yes rfl
    | false =>
      obtain ⟨e, hmin⟩ := hD.no rfl
      rw [e]; exact hole_heap hs hmin (fun h => absurd h (by omega))
  refine x_nil (n_then (x_seq (x_region (s_val rfl (v_move rfl) ?_))))
  refine s_do rfl (d_invoke1 rfl ((fun w => m_pop w _)) Tryz.call506 rfl (rowPop_spec W0 _ b l' x tl)) ?_
  rintro _ B_ ⟨rfl, hB_⟩
  obtain rfl := hB_.symm
  refine s_val rfl (v_assign rfl) (x_nil (n_then (x_ret (x_done (.inl rfl) (.cons (r_tmp rfl) .nil) ?_))))
  refine ⟨_, ⟨x, l', rfl, rfl, hp, by rw [hl']; exact heap_front hH (by omega), fun y hy => ?_⟩, inferInstance⟩
  obtain ⟨c, hc, rfl⟩ := List.mem_iff_getElem.1 hy
  have := heap_min hh c hc
  rw [us_eq hc] at this
  rw [hx0]; exact this
end Go.Proofs.YtnidndllknffgaaGreat
namespace Go.Proofs.YtnidndllknffgaaGreat
open Go.RowKit
set_option linter.unusedSimpArgs false
set_option linter.unusedVariables false
set_option maxRecDepth 20000
theorem New_spec (W0 : World) (R : List HP) (room : Nat) (h : room ≤ 4) :
    Spec Tryz.prog W0 304 [.int .i64 room] R (fun v B => ∃ b, v = .tuple #[.pointer (some ⟨b, 0, none⟩), .int .i64 0] ∧ B = rowH b ([], [.int .i64 room, .int .i64 0, .bool true]) :: R) := by
  refine spec_body Tryz.func304 Tryz.ntmps304 rfl rfl ?_
  refine x_seq (x_region (s_val rfl (v_assign rfl) (s_val rfl (v_assign rfl) (x_nil (n_then (x_seq (x_seq (x_region (s_val rfl (v_move rfl) (s_val rfl (v_lss rfl rfl) (s_val rfl (v_move rfl) ?_)))))))))))
  refine s_or rfl rfl rfl ?_ ?_
  · intro g1_3
    omega
  · intro g1_3
    refine s_val rfl (v_move rfl) (s_yes rfl rfl (s_val rfl (v_gtr rfl rfl) (s_val rfl (v_pick_f rfl rfl) (x_nil (n_then ?_)))))
    refine x_if rfl ?_ ?_
    · intro c1
      omega
    · intro c1
      refine x_skip (n_then (x_seq (x_region (s_val rfl (v_move rfl) (s_val rfl (v_build Tryz.underlying525 Tryz.zeroValue525 (sized_cons Tryz.sizeOf523 (sized_cons Tryz.sizeOf3 (sized_cons Tryz.sizeOf3 (sized_cons Tryz.sizeOf4 sized_nil)))) (fil_scal rfl Tryz.sizeOf3 rfl rfl (Nat.le_of_ble_eq_true rfl) SetL.eq (fil_scal rfl Tryz.sizeOf4 rfl rfl (Nat.le_of_ble_eq_true rfl) SetL.eq fil_nil))) ?_)))))
      refine s_do rfl (d_boxA rfl) ?_
      rintro _ _ ⟨b1, rfl, rfl⟩
      refine s_val rfl (v_assign rfl) (s_val rfl (v_assign rfl) (x_nil (n_then (x_ret (x_done (.inl rfl) (.cons (r_tmp rfl) (.cons (r_tmp rfl) .nil)) ?_)))))
      exact ⟨_, ⟨b1, rfl, rfl⟩, (Ent.cons (ent_osl_nil (B := R))).trans (ent_chk (R := R) (C := [_, _]) ⟨none, 0, rfl⟩)⟩
end Go.Proofs.YtnidndllknffgaaGreat
namespace Go.Proofs.YtnidndllknffgaaGreat
open Go.RowKit
set_option linter.unusedSimpArgs false
set_option linter.unusedVariables false
set_option maxRecDepth 20000
abbrev mnO (pv bt bs : Nat) : Obj := cob [.pointer (some ⟨pv, 0, none⟩), .pointer (some ⟨bt, 0, none⟩), .pointer (some ⟨bs, 0, none⟩)] 443
theorem sdNew_spec (W0 : World) (R : List HP) : Spec Tryz.prog W0 305 [] R (fun v B => ∃ b, v = .pointer (some ⟨b, 0, none⟩) ∧ B = pt b (cob [nilS, .bool true] 512) :: R) := by
  refine spec_body Tryz.func305 Tryz.ntmps305 rfl rfl ?_
  refine x_seq (x_region (s_val rfl (v_assign rfl) (x_nil (n_then (x_seq (x_region (s_val rfl (v_build Tryz.underlying512 Tryz.zeroValue512 (sized_cons Tryz.sizeOf510 (sized_cons Tryz.sizeOf4 sized_nil)) (fil_scal rfl Tryz.sizeOf4 rfl rfl (Nat.le_of_ble_eq_true rfl) SetL.eq fil_nil)) ?_)))))))
  refine s_do rfl (d_boxA rfl) ?_
  rintro _ _ ⟨b1, rfl, rfl⟩
  refine s_val rfl (v_assign rfl) (x_nil (n_then (x_ret (x_done (.inl rfl) (.cons (r_tmp rfl) .nil) ?_))))
  exact ⟨_, ⟨_, rfl, rfl⟩, ent_refl⟩
theorem mnNew_spec (W0 : World) (R : List HP) (pv ps pm d room : Nat) (hr : room ≤ 4) :
    Spec Tryz.prog W0 209 [.pointer (some ⟨pv, 0, none⟩), .int .i64 room] (pt pv (viO ps pm d) :: R)
      (fun v B => ∃ bm bt bs, v = .tuple #[.pointer (some ⟨bm, 0, none⟩), .int .i64 0] ∧ B = pt bm (mnO pv bt bs) :: rowH bt ([], [.int .i64 room, .int .i64 0, .bool true]) :: pt bs (cob [nilS, .bool true] 512) :: pt pv (viO ps pm d) :: R) := by
  refine spec_body Tryz.func209 Tryz.ntmps209 rfl rfl ?_
  refine x_seq (x_region (s_val rfl (v_assign rfl) (s_val rfl (v_assign rfl) (x_nil (n_then (x_seq (x_seq (x_region (s_val rfl (v_move rfl) (s_do rfl (d_call1 Tryz.call143 rfl (viMap_spec W0 _ pv ps pm d)) ?_))))))))))
  rintro _ B_ ⟨rfl, hB_⟩
  obtain rfl := hB_.symm
  refine s_val rfl (v_eql_ptr_nil Tryz.underlying207 rfl rfl) (x_nil (n_then ?_))
  refine x_if rfl ?_ ?_
  · intro c1
    exact absurd c1 (by simp)
  · intro c1
    refine x_skip (n_then (x_seq (x_region (s_val rfl (v_move rfl) (s_do rfl (d_call Tryz.call304 rfl (New_spec W0 _ room hr)) ?_)))))
    rintro _ B_ ⟨bt, rfl, hB_⟩
    subst hB_
    refine s_val rfl (v_move rfl) (s_val rfl (v_extract rfl rfl) (s_val rfl (v_extract rfl rfl) (s_val rfl (v_assign rfl) (s_val rfl (v_assign rfl) (x_nil (n_then (x_seq (x_seq (x_region (s_val rfl (v_move rfl) (s_val rfl (v_neq rfl rfl) (x_nil (n_then ?_)))))))))))))
    refine x_if rfl ?_ ?_
    · intro c4
      exact absurd rfl c4
    · intro c4
      refine x_skip (n_then (x_seq (x_region (s_val rfl (v_move rfl) (s_val rfl (v_move rfl) (s_do rfl (d_call Tryz.call305 rfl (sdNew_spec W0 _)) ?_))))))
      rintro _ B_ ⟨bs, rfl, hB_⟩
      subst hB_
      refine s_val rfl (v_build Tryz.underlying443 Tryz.zeroValue443 (sized_cons Tryz.sizeOf139 (sized_cons Tryz.sizeOf440 (sized_cons Tryz.sizeOf441 sized_nil))) (fil_scal rfl Tryz.sizeOf139 rfl rfl (Nat.le_of_ble_eq_true rfl) SetL.eq (fil_scal rfl Tryz.sizeOf440 rfl rfl (Nat.le_of_ble_eq_true rfl) SetL.eq (fil_scal rfl Tryz.sizeOf441 rfl rfl (Nat.le_of_ble_eq_true rfl) SetL.eq fil_nil)))) ?_
      refine s_do rfl (d_boxA rfl) ?_
      rintro _ _ ⟨bm, rfl, rfl⟩
      refine s_val rfl (v_assign rfl) (s_val rfl (v_assign rfl) (x_nil (n_then (x_ret (x_done (.inl rfl) (.cons (r_tmp rfl) (.cons (r_tmp rfl) .nil)) ?_)))))
      exact ⟨_, ⟨bm, bt, bs, rfl, rfl⟩, inferInstance⟩
end Go.Proofs.YtnidndllknffgaaGreat
