/-
  Part 4 of the proof of BlkBack: rules, and walks of functions. Conditions: none.
-/
import Derived.Test.YtlnmofhehcilhaaGreatBlkBackC
namespace Go.Proofs.YtlnmofhehcilhaaGreat
open Go.RowKit
set_option linter.unusedSimpArgs false
set_option linter.unusedVariables false
set_option maxRecDepth 20000
def gvE (rs : List Rn) (n f k w : Int) : Int := if f < 0 ∨ k < 1 ∨ n < f ∨ n - f < k ∨ w < 0 ∨ 64 ≤ w then 1 else if mtH rs f k then 5 else 0
def gvR (rs : List Rn) (n f k w : Int) : List Rn := if gvE rs n f k w = 0 then rnIns rs (mtA rs f) (f, k, w) else rs
theorem gvR_ok {rs : List Rn} {n f k w : Int} (h : TbOk rs) (hn : n ≤ 64) : TbOk (gvR rs n f k w) := by
  unfold gvR; split
  · rename_i he
    have hb : ¬ (f < 0 ∨ k < 1 ∨ n < f ∨ n - f < k ∨ w < 0 ∨ 64 ≤ w) := fun q => by rw [gvE, if_pos q] at he; exact absurd he (by decide)
    intro x hx
    rw [rnIns] at hx
    rcases List.mem_append.1 hx with q | q
    · exact h x (List.mem_of_mem_take q)
    · rcases List.mem_cons.1 q with rfl | q
      · exact ⟨by show 0 ≤ f; omega, by show 1 ≤ k; omega, by show f + k ≤ 64; omega, by show 0 ≤ w; omega, by show w < 64; omega⟩
      · exact h x (List.mem_of_mem_drop q)
  · exact h
theorem gvR_len {rs : List Rn} {n f k w : Int} : (gvR rs n f k w).length ≤ rs.length + 1 := by
  unfold gvR; split
  · rw [rnIns_len _ (mtA_le _ _)]; omega
  · omega
theorem paGive_spec (W0 : World) (R : List HP) (b : Nat) (rs : List Rn) (n : Int) (hn : 0 ≤ n ∧ n ≤ 64) (hok : TbOk rs) (hl : rs.length ≤ 900) (f k w : Int) :
    Spec Tryz.prog W0 128 [.pointer (some ⟨b, 0, none⟩), .int .i64 f, .int .i64 k, .int .i64 w] (tabH b (rs, n) :: R) (fun v B => v = .int .i64 (gvE rs n f k w) ∧ B = tabH b (gvR rs n f k w, n) :: R) := by
  refine spec_body Tryz.func128 Tryz.ntmps128 rfl rfl ?_
  refine x_seq ?_
  refine run_tab (b := b) fun a c => ?_
  dsimp only
  refine x_region (s_val rfl (v_assign rfl) (x_nil (n_then (x_seq (x_block (x_seq (x_region (s_val rfl (v_move rfl) (s_do rfl (d_call1 Tryz.call205 rfl (paNone_spec W0 _ b rs.length c a n)) ?_)))))))))
  rintro _ B_ ⟨rfl, hB_⟩
  obtain rfl := hB_.symm
  refine s_val rfl (v_assign rfl) (x_nil (n_then ?_))
  refine x_if rfl ?_ ?_
  · intro c1
    exact absurd c1 (by decide)
  · intro c1
    refine x_seq (x_seq (x_region (s_val rfl (v_move rfl) (s_val rfl (v_lss rfl rfl) (s_val rfl (v_assign rfl) (x_nil (n_then ?_)))))))
    refine x_if rfl ?_ ?_
    · intro c3
      refine x_skip (n_then (x_ift rfl (x_seq (x_region (s_val rfl (v_assign rfl) (x_nil (n_then (x_ret (r_block (r_then (x_done (.inl rfl) (.cons (r_tmp rfl) .nil) ?_)))))))))))
      have he : gvE rs n f k w = 1 := by rw [gvE, if_pos (by omega)]
      rw [gvR, he, if_neg (by decide)]
      exact ⟨_, ⟨rfl, rfl⟩, ent_tab rfl rfl⟩
    · intro c3
      refine x_seq (x_region (s_val rfl (v_move rfl) (s_val rfl (v_lss rfl rfl) (s_val rfl (v_assign rfl) (x_nil (n_then ?_))))))
      refine x_if rfl ?_ ?_
      · intro c4
        refine x_skip (n_then (x_ift rfl (x_seq (x_region (s_val rfl (v_assign rfl) (x_nil (n_then (x_ret (r_block (r_then (x_done (.inl rfl) (.cons (r_tmp rfl) .nil) ?_)))))))))))
        have he : gvE rs n f k w = 1 := by rw [gvE, if_pos (by omega)]
        rw [gvR, he, if_neg (by decide)]
        exact ⟨_, ⟨rfl, rfl⟩, ent_tab rfl rfl⟩
      · intro c4
        refine x_seq (x_region (s_val rfl (v_move rfl) (s_val rfl (v_move rfl) (s_val rfl (v_nilCheck rfl) ?_))))
        refine s_val rfl (v_fieldAddr rfl Tryz.underlying288 rfl Tryz.sizeOf3 rfl (by first | exact Nat.zero_add _ | rfl)) ?_
        refine s_val rfl (v_load Tryz.isAgg3 rfl (cell_own rfl)) ?_
        refine s_val rfl (v_gtr rfl rfl) (s_val rfl (v_assign rfl) (x_nil (n_then ?_)))
        refine x_if rfl ?_ ?_
        · intro c5
          refine x_skip (n_then (x_ift rfl (x_seq (x_region (s_val rfl (v_assign rfl) (x_nil (n_then (x_ret (r_block (r_then (x_done (.inl rfl) (.cons (r_tmp rfl) .nil) ?_)))))))))))
          have he : gvE rs n f k w = 1 := by rw [gvE, if_pos (by omega)]
          rw [gvR, he, if_neg (by decide)]
          exact ⟨_, ⟨rfl, rfl⟩, ent_tab rfl rfl⟩
        · intro c5
          refine x_seq (x_region (s_val rfl (v_move rfl) (s_val rfl (v_move rfl) (s_val rfl (v_nilCheck rfl) ?_))))
          refine s_val rfl (v_fieldAddr rfl Tryz.underlying288 rfl Tryz.sizeOf3 rfl (by first | exact Nat.zero_add _ | rfl)) ?_
          refine s_val rfl (v_load Tryz.isAgg3 rfl (cell_own rfl)) ?_
          refine s_val rfl (v_move rfl) ?_
          refine s_val rfl (v_sub rfl rfl (w64 (by omega))) ?_
          refine s_val rfl (v_gtr rfl rfl) (s_val rfl (v_assign rfl) (x_nil (n_then ?_)))
          refine x_if rfl ?_ ?_
          · intro c6
            refine x_skip (n_then (x_ift rfl (x_seq (x_region (s_val rfl (v_assign rfl) (x_nil (n_then (x_ret (r_block (r_then (x_done (.inl rfl) (.cons (r_tmp rfl) .nil) ?_)))))))))))
            have he : gvE rs n f k w = 1 := by rw [gvE, if_pos (by omega)]
            rw [gvR, he, if_neg (by decide)]
            exact ⟨_, ⟨rfl, rfl⟩, ent_tab rfl rfl⟩
          · intro c6
            refine x_seq (x_region (s_val rfl (v_move rfl) (s_val rfl (v_lss rfl rfl) (s_val rfl (v_assign rfl) (x_nil (n_then ?_))))))
            refine x_if rfl ?_ ?_
            · intro c7
              refine x_skip (n_then (x_ift rfl (x_seq (x_region (s_val rfl (v_assign rfl) (x_nil (n_then (x_ret (r_block (r_then (x_done (.inl rfl) (.cons (r_tmp rfl) .nil) ?_)))))))))))
              have he : gvE rs n f k w = 1 := by rw [gvE, if_pos (by omega)]
              rw [gvR, he, if_neg (by decide)]
              exact ⟨_, ⟨rfl, rfl⟩, ent_tab rfl rfl⟩
            · intro c7
              refine x_region (s_val rfl (v_move rfl) (s_val rfl (v_geq rfl rfl) (s_val rfl (v_assign rfl) (x_nil (n_then ?_)))))
              refine x_if rfl ?_ ?_
              · intro c8
                refine x_seq (x_region (s_val rfl (v_assign rfl) (x_nil (n_then (x_ret (r_block (r_then (x_done (.inl rfl) (.cons (r_tmp rfl) .nil) ?_))))))))
                have he : gvE rs n f k w = 1 := by rw [gvE, if_pos (by omega)]
                rw [gvR, he, if_neg (by decide)]
                exact ⟨_, ⟨rfl, rfl⟩, ent_tab rfl rfl⟩
              · intro c8
                refine x_skip (n_block (n_then (x_seq (x_region (s_val rfl (v_move rfl) (s_val rfl (v_move rfl) (s_val rfl (v_move rfl) ?_)))))))
                refine s_do rfl (d_call2 Tryz.call206 rfl (paMeets_spec W0 _ b c rs n a hok (by omega) f k (by omega))) ?_
                rintro _ B_ ⟨rfl, hB_⟩
                obtain rfl := hB_.symm
                refine s_val rfl (v_move rfl) (s_val rfl (v_extract rfl rfl) (s_val rfl (v_extract rfl rfl) (s_val rfl (v_assign rfl) (s_val rfl (v_assign rfl) (x_nil (n_then (x_seq (x_seq (x_region (s_val rfl (v_move rfl) (x_nil (n_then ?_))))))))))))
                refine x_if rfl ?_ ?_
                · intro c11
                  refine x_seq (x_region (s_val rfl (v_assign rfl) (x_nil (n_then (x_ret (r_then (x_done (.inl rfl) (.cons (r_tmp rfl) .nil) ?_)))))))
                  have he : gvE rs n f k w = 5 := by rw [gvE, if_neg (by omega), if_pos c11]
                  rw [gvR, he, if_neg (by decide)]
                  exact ⟨_, ⟨rfl, rfl⟩, ent_tab rfl rfl⟩
                · intro c11
                  refine x_skip (n_then (x_seq ?_))
                  have he : gvE rs n f k w = 0 := by rw [gvE, if_neg (by omega), if_neg c11]
                  have hal := mtA_le rs f
                  refine run_sla (E := 292) (sz := 3) (a := a) (n := rs.length) (c := c) rnV rs rnV_len (by decide) rfl (fun hs => ?_)
                  refine x_region (s_val rfl (v_move rfl) (s_val rfl (v_move rfl) (s_val rfl (v_nilCheck rfl) ?_)))
                  refine s_val rfl (v_fieldAddr rfl Tryz.underlying288 rfl Tryz.sizeOf286 rfl (by first | exact Nat.zero_add _ | rfl)) ?_
                  refine s_val rfl (v_load Tryz.isAgg286 rfl (cell_own rfl)) ?_
                  refine s_do rfl (d_call Tryz.call208 rfl (cloneRn_spec W0 _ rs a rs.length c rfl (by omega) hs)) ?_
                  rintro _ B_ ⟨a2, cc, rfl, hB_⟩
                  obtain rfl := hB_.symm
                  refine s_val rfl (v_move rfl) (s_val rfl (v_move rfl) (s_val rfl (v_move rfl) (s_val rfl (v_move rfl) (s_val rfl (v_build Tryz.underlying292 Tryz.zeroValue292 (sized_cons Tryz.sizeOf3 (sized_cons Tryz.sizeOf3 (sized_cons Tryz.sizeOf3 sized_nil))) (fil_scal rfl Tryz.sizeOf3 rfl rfl (Nat.le_of_ble_eq_true rfl) SetL.eq (fil_scal rfl Tryz.sizeOf3 rfl rfl (Nat.le_of_ble_eq_true rfl) SetL.eq (fil_scal rfl Tryz.sizeOf3 rfl rfl (Nat.le_of_ble_eq_true rfl) SetL.eq fil_nil)))) ?_))))
                  refine s_do rfl (d_sliceAgg Tryz.underlying286 Tryz.sizeOf292 Tryz.zeroValue292 rfl (elsK_cons rfl rfl elsK_nil) rfl (by decide) (by decide) (by decide)) ?_
                  rintro _ _ ⟨bv, rfl, rfl⟩
                  refine s_do rfl (d_call2 Tryz.call207 rfl (insRn_spec W0 _ rs a2 cc bv (f, k, w) (mtA rs f) hal (by omega))) ?_
                  rintro _ B_ ⟨a3, c3', rfl, hB_⟩
                  obtain rfl := hB_.symm
                  refine s_val rfl (v_nilCheck rfl) ?_
                  refine s_val rfl (v_fieldAddr rfl Tryz.underlying288 rfl Tryz.sizeOf286 rfl (by first | exact Nat.zero_add _ | rfl)) ?_
                  refine s_do0 (d_store Tryz.sizeOf286 rfl rfl rfl (Nat.le_of_ble_eq_true rfl) SetL.eq) ?_
                  rintro _ _ rfl
                  refine x_nil (n_then (x_seq (x_region (s_val rfl (v_assign rfl) (x_nil (n_then (x_ret (x_done (.inl rfl) (.cons (r_tmp rfl) .nil) ?_))))))))
                  rw [gvR, he, if_pos rfl]
                  exact ⟨_, ⟨rfl, rfl⟩, ent_tab (rnIns_len _ hal).symm rfl⟩
def whF : List Rn → Int → Option Int
  | [], _ => none
  | x :: l, i => if x.1 ≤ i ∧ i < x.1 + x.2.1 then some x.2.2 else whF l i
def whR (rs : List Rn) (n i : Int) : Option Int := if i < 0 ∨ n ≤ i then none else whF rs i
theorem whF_some : ∀ (rs : List Rn) (x : Int) (i : Nat) (hi : i < rs.length), (∀ j (hj : j < rs.length), j < i → ¬ (rs[j].1 ≤ x ∧ x < rs[j].1 + rs[j].2.1)) → (rs[i].1 ≤ x ∧ x < rs[i].1 + rs[i].2.1) → whF rs x = some rs[i].2.2
  | y :: l, x, 0, _, _, h => by rw [whF, if_pos (by simpa using h)]; rfl
  | y :: l, x, i + 1, hi, h1, h2 => by
    have h0 := h1 0 (by simp) (by omega)
    rw [whF, if_neg (by simpa using h0), whF_some l x i (by simpa using hi) (fun j hj hji => by
      have := h1 (j + 1) (by simpa using hj) (by omega)
      simpa using this) (by simpa using h2)]
    simp
theorem whF_none : ∀ (rs : List Rn) (x : Int), (∀ j (hj : j < rs.length), ¬ (rs[j].1 ≤ x ∧ x < rs[j].1 + rs[j].2.1)) → whF rs x = none
  | [], _, _ => rfl
  | y :: l, x, h => by
    have h0 := h 0 (by simp)
    rw [whF, if_neg (by simpa using h0), whF_none l x (fun j hj => by
      have := h (j + 1) (by simpa using hj)
      simpa using this)]
theorem paWho_spec (W0 : World) (R : List HP) (b : Nat) (rs : List Rn) (n : Int) (hok : TbOk rs) (hl : rs.length ≤ 1000) (i : Int) :
    Spec Tryz.prog W0 151 [.pointer (some ⟨b, 0, none⟩), .int .i64 i] (tabH b (rs, n) :: R) (fun v B => v = .tuple #[.int .i64 ((whR rs n i).getD 0), .bool (whR rs n i).isSome] ∧ B = tabH b (rs, n) :: R) := by
  refine spec_body Tryz.func151 Tryz.ntmps151 rfl rfl ?_
  refine x_seq (x_region (s_do rfl (d_box rfl rfl) ?_))
  rintro _ _ ⟨bi, rfl, rfl⟩
  refine s_do rfl (d_alloc Tryz.zeroValue3 rfl) ?_
  rintro _ _ ⟨b4, rfl, rfl⟩
  refine s_do rfl (d_alloc Tryz.zeroValue4 rfl) ?_
  rintro _ _ ⟨b5, rfl, rfl⟩
  refine x_nil (n_then (x_seq (x_seq ?_)))
  refine run_tab (b := b) fun a c => ?_
  dsimp only
  refine x_draw [(bi, 0, _), (b, 0, _)] 14 mixed rfl (sc_own (sc_own sc_end)) (fun hS => ?_)
  refine d_take 0 rfl rfl (by kernel_rfl) (by kernel_rfl) (by kernel_rfl) rfl hS (v_move rfl) ?_
  refine d_one 1 (by kernel_rfl) rfl rfl (d_call1 Tryz.call205 rfl (paNone_spec W0 _ b rs.length c a n)) rfl ?_; clear hS
  rintro _ B_ ⟨rfl, hB_⟩
  obtain rfl := hB_.symm
  refine ⟨(sc_own (sc_own sc_end)), fun hS => ?_⟩
  refine d_take 2 rfl rfl (by kernel_rfl) (by kernel_rfl) (by kernel_rfl) rfl hS (v_move rfl) ?_
  refine x_split (t := 10) rfl ?_ ?_
  · intro g1_3
    exact absurd g1_3 (by decide)
  · intro g1_3
    refine d_take 3 rfl rfl (by kernel_rfl) (by kernel_rfl) (by kernel_rfl) rfl hS (v_load Tryz.isAgg3 rfl (by first | exact cell_sc0 (k := 0) rfl rfl | exact cell_sc0 (k := 1) rfl rfl)) ?_
    refine d_take 4 rfl rfl (by kernel_rfl) (by kernel_rfl) (by kernel_rfl) rfl hS (v_lss rfl rfl) ?_
    refine d_take 5 rfl rfl (by kernel_rfl) (by kernel_rfl) (by kernel_rfl) rfl hS (v_pick_f rfl rfl) ?_
    refine d_take 6 rfl rfl (by kernel_rfl) (by kernel_rfl) (by kernel_rfl) rfl hS (v_move rfl) ?_
    refine x_split (t := 14) rfl ?_ ?_
    · intro g1_7
      refine d_skip 7 rfl rfl (by kernel_rfl) (by kernel_rfl) (by kernel_rfl) rfl hS ?_
      refine d_skip 8 rfl rfl (by kernel_rfl) (by kernel_rfl) (by kernel_rfl) rfl hS ?_
      refine d_skip 9 rfl rfl (by kernel_rfl) (by kernel_rfl) (by kernel_rfl) rfl hS ?_
      refine d_skip 10 rfl rfl (by kernel_rfl) (by kernel_rfl) (by kernel_rfl) rfl hS ?_
      refine d_skip 11 rfl rfl (by kernel_rfl) (by kernel_rfl) (by kernel_rfl) rfl hS ?_
      refine d_skip 12 rfl rfl (by kernel_rfl) (by kernel_rfl) (by kernel_rfl) rfl hS ?_
      refine d_take 13 rfl rfl (by kernel_rfl) (by kernel_rfl) (by kernel_rfl) rfl hS (v_pick_t rfl rfl) ?_
      refine d_done (by kernel_rfl) ?_; clear hS
      refine n_then (x_ift rfl (x_seq (x_region (s_do0 (d_store Tryz.sizeOf3 rfl rfl rfl (Nat.le_of_ble_eq_true rfl) SetL.eq) ?_))))
      rintro _ _ rfl
      refine s_do0 (d_store Tryz.sizeOf4 rfl rfl rfl (Nat.le_of_ble_eq_true rfl) SetL.eq) ?_
      rintro _ _ rfl
      refine x_nil (n_then (x_ret (r_then (x_done (.inl rfl) (.cons (r_cell Tryz.isAgg3 rfl (cell_own rfl)) (.cons (r_cell Tryz.isAgg4 rfl (cell_own rfl)) .nil)) ?_))))
      have hw : whR rs n i = none := by rw [whR, if_pos (by omega)]
      rw [hw]
      exact ⟨_, ⟨rfl, rfl⟩, ent_tab rfl rfl⟩
    · intro g1_7
      refine d_take 7 rfl rfl (by kernel_rfl) (by kernel_rfl) (by kernel_rfl) rfl hS (v_load Tryz.isAgg3 rfl (by first | exact cell_sc0 (k := 0) rfl rfl | exact cell_sc0 (k := 1) rfl rfl)) ?_
      refine d_take 8 rfl rfl (by kernel_rfl) (by kernel_rfl) (by kernel_rfl) rfl hS (v_move rfl) ?_
      refine d_take 9 rfl rfl (by kernel_rfl) (by kernel_rfl) (by kernel_rfl) rfl hS (v_nilCheck rfl) ?_
      refine d_take 10 rfl rfl (by kernel_rfl) (by kernel_rfl) (by kernel_rfl) rfl hS (v_fieldAddr rfl Tryz.underlying288 rfl Tryz.sizeOf3 rfl (by first | exact Nat.zero_add _ | rfl)) ?_
      refine d_take 11 rfl rfl (by kernel_rfl) (by kernel_rfl) (by kernel_rfl) rfl hS (v_load Tryz.isAgg3 rfl (by first | exact cell_sc0 (k := 0) rfl rfl | exact cell_sc0 (k := 1) rfl rfl)) ?_
      refine d_take 12 rfl rfl (by kernel_rfl) (by kernel_rfl) (by kernel_rfl) rfl hS (v_geq rfl rfl) ?_
      refine d_take 13 rfl rfl (by kernel_rfl) (by kernel_rfl) (by kernel_rfl) rfl hS (v_pick_f rfl rfl) ?_
      refine d_done (by kernel_rfl) ?_; clear hS
      refine n_then ?_
      refine x_if rfl ?_ ?_
      · intro c1
        refine x_seq (x_region (s_do0 (d_store Tryz.sizeOf3 rfl rfl rfl (Nat.le_of_ble_eq_true rfl) SetL.eq) ?_))
        rintro _ _ rfl
        refine s_do0 (d_store Tryz.sizeOf4 rfl rfl rfl (Nat.le_of_ble_eq_true rfl) SetL.eq) ?_
        rintro _ _ rfl
        refine x_nil (n_then (x_ret (r_then (x_done (.inl rfl) (.cons (r_cell Tryz.isAgg3 rfl (cell_own rfl)) (.cons (r_cell Tryz.isAgg4 rfl (cell_own rfl)) .nil)) ?_))))
        have hw : whR rs n i = none := by rw [whR, if_pos (by omega)]
        rw [hw]
        exact ⟨_, ⟨rfl, rfl⟩, ent_tab rfl rfl⟩
      · intro c1
        refine x_skip (n_then (x_seq (x_seq ?_)))
        have hw : whR rs n i = whF rs i := by rw [whR, if_neg (by omega)]
        refine x_region (s_val rfl (v_move rfl) (s_do rfl (d_call Tryz.call220 rfl (paAll_spec W0 _ b)) ?_))
        rintro _ B_ ⟨b1, rfl, hB_⟩
        obtain rfl := hB_.symm
        refine x_nil (n_then (x_block ?_))
        refine x_rangeFunc (fun C => (∀ j, j < rs.length → ¬ ((rs.getD j (0, 0, 0)).1 ≤ i ∧ i < (rs.getD j (0, 0, 0)).1 + (rs.getD j (0, 0, 0)).2.1)) ∧ C = pt b (tbO a rs.length c n) :: osl 292 3 (.slice a rs.length c) (rs.flatMap rnV) :: pt b5 (cob [.bool false] 4) :: pt b4 (cob [.int .i64 0] 3) :: pt bi (cob [.int .i64 i] 3) :: R) (fun C => ∃ k, k < rs.length ∧ (∀ j, j < k → ¬ ((rs.getD j (0, 0, 0)).1 ≤ i ∧ i < (rs.getD j (0, 0, 0)).1 + (rs.getD j (0, 0, 0)).2.1)) ∧ ((rs.getD k (0, 0, 0)).1 ≤ i ∧ i < (rs.getD k (0, 0, 0)).1 + (rs.getD k (0, 0, 0)).2.1) ∧ C = pt b (tbO a rs.length c n) :: osl 292 3 (.slice a rs.length c) (rs.flatMap rnV) :: pt b5 (cob [.bool true] 4) :: pt b4 (cob [.int .i64 (rs.getD k (0, 0, 0)).2.2] 3) :: pt bi (cob [.int .i64 i] 3) :: R) rfl Tryz.call268 ?_ ?_ ?_
        · intro L D
          refine all_range .ret rs hl (fun _ => pt b5 (cob [.bool false] 4) :: pt b4 (cob [.int .i64 0] 3) :: pt bi (cob [.int .i64 i] 3) :: R) (fun k => ∀ j, j < k → ¬ ((rs.getD j (0, 0, 0)).1 ≤ i ∧ i < (rs.getD j (0, 0, 0)).1 + (rs.getD j (0, 0, 0)).2.1)) (fun B => ∃ k, k < rs.length ∧ (∀ j, j < k → ¬ ((rs.getD j (0, 0, 0)).1 ≤ i ∧ i < (rs.getD j (0, 0, 0)).1 + (rs.getD j (0, 0, 0)).2.1)) ∧ ((rs.getD k (0, 0, 0)).1 ≤ i ∧ i < (rs.getD k (0, 0, 0)).1 + (rs.getD k (0, 0, 0)).2.1) ∧ B = pt b5 (cob [.bool true] 4) :: pt b4 (cob [.int .i64 (rs.getD k (0, 0, 0)).2.2] 3) :: pt bi (cob [.int .i64 i] 3) :: R) ((perm3 (r1 := pt) (b1 := b1) (r2 := pt) (b2 := b) (r3 := osl 292 3) (b3 := .slice a rs.length c)).trans (List.Perm.refl _)) (fun j hj => absurd hj (Nat.not_lt_zero j)) (fun h => ⟨h, rfl⟩) (fun B' h => by obtain ⟨k, h1, h2, h3, rfl⟩ := h; exact ⟨k, h1, h2, h3, rfl⟩) ?_
          intro k R' hk hI
          have hx := hok.get hk
          obtain ⟨x, hxe⟩ : ∃ x, rs.getD k (0, 0, 0) = x := ⟨_, rfl⟩
          rw [hxe] at hx ⊢
          simp only [List.cons_append, List.nil_append]
          refine rounds_intro rfl rfl ?_
          refine x_region (s_do rfl (d_allocA Tryz.zeroValue292) ?_)
          rintro _ _ ⟨bd, rfl, rfl⟩
          refine s_do0 (d_storeAll Tryz.sizeOf292 rfl rfl rfl rfl rfl) ?_
          rintro _ _ rfl
          refine x_nil (n_begin rfl ?_)
          refine x_block (x_seq ?_)
          refine x_drawR [(bd, 0, _), (bi, 0, _)] 10 mixed rfl (sc_own (sc_own sc_end)) (fun hS => ?_)
          refine d_take 0 rfl rfl (by kernel_rfl) (by kernel_rfl) (by kernel_rfl) rfl hS (v_fieldAddr rfl Tryz.underlying292 rfl Tryz.sizeOf3 rfl (by first | exact Nat.zero_add _ | rfl)) ?_
          refine d_take 1 rfl rfl (by kernel_rfl) (by kernel_rfl) (by kernel_rfl) rfl hS (v_load Tryz.isAgg3 rfl (by first | exact cell_sc0 (k := 0) rfl rfl | exact cell_sc0 (k := 1) rfl rfl)) ?_
          refine d_take 2 rfl rfl (by kernel_rfl) (by kernel_rfl) (by kernel_rfl) rfl hS (v_load Tryz.isAgg3 rfl (by first | exact cell_sc0 (k := 0) rfl rfl | exact cell_sc0 (k := 1) rfl rfl)) ?_
          refine d_take 3 rfl rfl (by kernel_rfl) (by kernel_rfl) (by kernel_rfl) rfl hS (v_leq rfl rfl) ?_
          refine d_take 4 rfl rfl (by kernel_rfl) (by kernel_rfl) (by kernel_rfl) rfl hS (v_move rfl) ?_
          refine x_split (t := 30) rfl ?_ ?_
          · intro g5_5
            refine d_take 5 rfl rfl (by kernel_rfl) (by kernel_rfl) (by kernel_rfl) rfl hS (v_load Tryz.isAgg3 rfl (by first | exact cell_sc0 (k := 0) rfl rfl | exact cell_sc0 (k := 1) rfl rfl)) ?_
            refine d_take 6 rfl rfl (by kernel_rfl) (by kernel_rfl) (by kernel_rfl) rfl hS (v_loadAgg Tryz.isAgg292 Tryz.sizeOf292 rfl (by first | exact cells_sc (k := 0) rfl | exact cells_sc (k := 1) rfl) rfl) ?_
            refine d_one 7 (by kernel_rfl) rfl rfl (d_call Tryz.call221 rfl (paEnd_spec W0 _ x (by omega))) rfl ?_; clear hS
            rintro _ B_ ⟨rfl, hB_⟩
            obtain rfl := hB_.symm
            refine ⟨(sc_own (sc_own sc_end)), fun hS => ?_⟩
            refine d_take 8 rfl rfl (by kernel_rfl) (by kernel_rfl) (by kernel_rfl) rfl hS (v_lss rfl rfl) ?_
            refine d_take 9 rfl rfl (by kernel_rfl) (by kernel_rfl) (by kernel_rfl) rfl hS (v_pick_t rfl rfl) ?_
            refine d_done (by kernel_rfl) ?_; clear hS
            refine n_then ?_
            refine x_if rfl ?_ ?_
            · intro c5
              refine x_seq (x_region ?_)
              refine s_val rfl (v_fieldAddr rfl Tryz.underlying292 rfl Tryz.sizeOf3 rfl (by first | exact Nat.zero_add _ | rfl)) ?_
              refine s_val rfl (v_load Tryz.isAgg3 rfl (cell_own rfl)) ?_
              refine s_do0 (d_store Tryz.sizeOf3 rfl rfl rfl (Nat.le_of_ble_eq_true rfl) SetL.eq) ?_
              rintro _ _ rfl
              refine s_do0 (d_store Tryz.sizeOf4 rfl rfl rfl (Nat.le_of_ble_eq_true rfl) SetL.eq) ?_
              rintro _ _ rfl
              refine x_nil (n_then (x_ret (r_block (r_stop ?_))))
              refine ⟨_, .inr ⟨rfl, _, ⟨k, hk, hI, by rw [hxe]; omega, rfl⟩, rfl⟩, ?_⟩
              simp only [List.cons_append]
              rw [hxe]
              exact inferInstance
            · intro c5
              refine x_skip (n_block (r_go ?_))
              have hI' : ∀ j, j < k + 1 → ¬ ((rs.getD j (0, 0, 0)).1 ≤ i ∧ i < (rs.getD j (0, 0, 0)).1 + (rs.getD j (0, 0, 0)).2.1) := fun j hj => by
                rcases Nat.lt_or_ge j k with q | q
                · exact hI j q
                · obtain rfl : j = k := by omega
                  rw [hxe]; omega
              exact ⟨_, .inl ⟨rfl, hI', rfl⟩, inferInstance⟩
          · intro g5_5
            refine d_skip 5 rfl rfl (by kernel_rfl) (by kernel_rfl) (by kernel_rfl) rfl hS ?_
            refine d_skip 6 rfl rfl (by kernel_rfl) (by kernel_rfl) (by kernel_rfl) rfl hS ?_
            refine d_skip 7 rfl rfl (by kernel_rfl) (by kernel_rfl) (by kernel_rfl) rfl hS ?_
            refine d_skip 8 rfl rfl (by kernel_rfl) (by kernel_rfl) (by kernel_rfl) rfl hS ?_
            refine d_take 9 rfl rfl (by kernel_rfl) (by kernel_rfl) (by kernel_rfl) rfl hS (v_pick_f rfl rfl) ?_
            refine d_done (by kernel_rfl) ?_; clear hS
            refine n_then (x_iff rfl (x_skip (n_block (r_go ?_))))
            have hI' : ∀ j, j < k + 1 → ¬ ((rs.getD j (0, 0, 0)).1 ≤ i ∧ i < (rs.getD j (0, 0, 0)).1 + (rs.getD j (0, 0, 0)).2.1) := fun j hj => by
              rcases Nat.lt_or_ge j k with q | q
              · exact hI j q
              · obtain rfl : j = k := by omega
                rw [hxe]; omega
            exact ⟨_, .inl ⟨rfl, hI', rfl⟩, inferInstance⟩
        · intro D C hC
          obtain ⟨hall, rfl⟩ := hC
          have hN : whF rs i = none := whF_none rs i (fun j hj => by have := hall j hj; rwa [show rs.getD j (0, 0, 0) = rs[j] by simp [List.getD, hj]] at this)
          refine n_block (n_then (x_seq (x_region (s_do0 (d_store Tryz.sizeOf3 rfl rfl rfl (Nat.le_of_ble_eq_true rfl) SetL.eq) ?_))))
          rintro _ _ rfl
          refine s_do0 (d_store Tryz.sizeOf4 rfl rfl rfl (Nat.le_of_ble_eq_true rfl) SetL.eq) ?_
          rintro _ _ rfl
          refine x_nil (n_then (x_ret (x_doneM (.inl rfl) (.cons (r_cell Tryz.isAgg3 rfl (cell_own rfl)) (.cons (r_cell Tryz.isAgg4 rfl (cell_own rfl)) .nil)) ?_)))
          rw [hw, hN]
          exact ⟨_, ⟨rfl, rfl⟩, ent_tab rfl rfl⟩
        · intro D C hC
          obtain ⟨k, hk, h1, h2, rfl⟩ := hC
          have hgk : rs.getD k (0, 0, 0) = rs[k] := by simp [List.getD, hk]
          have hN : whF rs i = some (rs.getD k (0, 0, 0)).2.2 := by
            rw [hgk]
            exact whF_some rs i k hk (fun j hj hjk => by have := h1 j hjk; rwa [show rs.getD j (0, 0, 0) = rs[j] by simp [List.getD, hj]] at this) (by rw [← hgk]; exact h2)
          refine r_block (r_then (x_doneM (.inl rfl) (.cons (r_cell Tryz.isAgg3 rfl (cell_own rfl)) (.cons (r_cell Tryz.isAgg4 rfl (cell_own rfl)) .nil)) ?_))
          rw [hw, hN]
          exact ⟨_, ⟨rfl, rfl⟩, ent_tab rfl rfl⟩
end Go.Proofs.YtlnmofhehcilhaaGreat
namespace Go.Proofs.YtlnmofhehcilhaaGreat
open Go.RowKit
set_option linter.unusedSimpArgs false
set_option linter.unusedVariables false
abbrev MEn := Int × Value × Nat
def mEnt (p : MEn) : MapEntry := { key := .int .i64 p.1, val := p.2.1, born := p.2.2 }
def mEnts (L : List MEn) : Array MapEntry := (L.map mEnt).toArray
def mget : List MEn → Int → Option Value
  | [], _ => none
  | p :: l, k => if p.1 = k then some p.2.1 else mget l k
def mfind : List MEn → Int → Nat → Option (Nat × Value)
  | [], _, _ => none
  | p :: l, k, i => if p.1 = k then some (i, p.2.1) else mfind l k (i + 1)
theorem findNow_ents (k : Int) : ∀ (L : List MEn) (i : Nat), Instr.findNow (.int .i64) (.int .i64 k) (L.map mEnt) i = some (mfind L k i)
  | [], i => rfl
  | p :: l, i => by
    rw [List.map_cons, Instr.findNow, mfind]
    simp only [mEnt, Instr.sameNow, if_true]
    by_cases h : p.1 = k
    · subst h; simp
    · have h' : (k == p.1) = false := by simpa using fun q => h q.symm
      rw [h', if_neg h]
      exact findNow_ents k l (i + 1)
theorem mfind_none : ∀ {L : List MEn} {k : Int} {i : Nat}, mfind L k i = none → mget L k = none ∧ k ∉ L.map (·.1)
  | [], k, i, _ => ⟨rfl, by simp⟩
  | p :: l, k, i, h => by
    rw [mfind] at h
    by_cases q : p.1 = k
    · rw [if_pos q] at h; cases h
    · rw [if_neg q] at h
      obtain ⟨h1, h2⟩ := mfind_none h
      refine ⟨by rw [mget, if_neg q]; exact h1, ?_⟩
      rw [List.map_cons, List.mem_cons]
      rintro (r | r)
      · exact q r.symm
      · exact h2 r
theorem mfind_some : ∀ {L : List MEn} {k : Int} {i j : Nat} {v : Value}, mfind L k i = some (j, v) → mget L k = some v ∧ ∃ m, j = i + m ∧ m < L.length ∧ (L[m]?).map (·.1) = some k
  | [], k, i, j, v, h => by cases h
  | p :: l, k, i, j, v, h => by
    rw [mfind] at h
    by_cases q : p.1 = k
    · rw [if_pos q] at h
      cases h
      exact ⟨by rw [mget, if_pos q], 0, rfl, by simp, by simp [q]⟩
    · rw [if_neg q] at h
      obtain ⟨h1, m, h2, h3, h4⟩ := mfind_some h
      exact ⟨by rw [mget, if_neg q]; exact h1, m + 1, by omega, by simpa using h3, by simpa using h4⟩
def mset (L : List MEn) (j : Nat) (k : Int) (v : Value) : List MEn := L.modify j fun e => (k, v, e.2.2)
theorem mset_get : ∀ {L : List MEn} {k : Int} {i m : Nat} {w v : Value}, mfind L k i = some (i + m, w) → (mset L m k v).map (·.1) = L.map (·.1) ∧ ∀ k', mget (mset L m k v) k' = if k' = k then some v else mget L k'
  | [], k, i, m, w, v, h => by cases h
  | p :: l, k, i, m, w, v, h => by
    rw [mfind] at h
    by_cases q : p.1 = k
    · rw [if_pos q] at h
      have hm : m = 0 := by
        have := congrArg (fun o => (o.map (·.1)).getD 0) h
        simp at this; omega
      subst hm
      refine ⟨by simp [mset, q], fun k' => ?_⟩
      show mget ((k, v, p.2.2) :: l) k' = _
      rw [mget, mget]
      by_cases r : k' = k
      · rw [if_pos r.symm, if_pos r]
      · rw [if_neg (fun s => r s.symm), if_neg r, if_neg (fun s => r (s.symm.trans q))]
    · rw [if_neg q] at h
      obtain ⟨_, m', h2, _, _⟩ := mfind_some h
      obtain rfl : m = m' + 1 := by omega
      have h3 : mfind l k (i + 1) = some (i + 1 + m', w) := by rw [h, h2]
      obtain ⟨e1, e2⟩ := mset_get (v := v) h3
      refine ⟨?_, fun k' => ?_⟩
      · show p.1 :: (mset l m' k v).map (·.1) = p.1 :: l.map (·.1)
        rw [e1]
      · show mget (p :: mset l m' k v) k' = _
        rw [mget, mget, e2]
        by_cases r : k' = k
        · subst r; simp [q]
        · simp [r]
theorem mpush_get {L : List MEn} {k : Int} {v : Value} {c : Nat} : ∀ (h : k ∉ L.map (·.1)) (k' : Int), mget (L ++ [(k, v, c)]) k' = if k' = k then some v else mget L k' := by
  intro h k'
  induction L with
  | nil =>
    show (if k = k' then some v else none) = _
    by_cases r : k' = k
    · rw [if_pos r.symm, if_pos r]
    · rw [if_neg (fun s => r s.symm), if_neg r]; rfl
  | cons p l ih =>
    rw [List.map_cons, List.mem_cons, not_or] at h
    rw [List.cons_append, mget, mget, ih h.2]
    by_cases r : k' = k
    · subst r
      have h1 : ¬ p.1 = k' := fun s => h.1 s.symm
      simp [h1]
    · simp [r]
theorem mget_not {L : List MEn} {k : Int} (h : k ∉ L.map (·.1)) : mget L k = none := by
  induction L with
  | nil => rfl
  | cons p l ih =>
    rw [List.map_cons, List.mem_cons, not_or] at h
    rw [mget, if_neg (fun s => h.1 s.symm), ih h.2]
theorem merase_get : ∀ {L : List MEn} {k : Int} {i m : Nat} {w : Value}, (L.map (·.1)).Nodup → mfind L k i = some (i + m, w) → ((L.eraseIdx m).map (·.1)).Nodup ∧ ∀ k', mget (L.eraseIdx m) k' = if k' = k then none else mget L k'
  | [], k, i, m, w, _, h => by cases h
  | p :: l, k, i, m, w, hn, h => by
    rw [List.map_cons, List.nodup_cons] at hn
    rw [mfind] at h
    by_cases q : p.1 = k
    · rw [if_pos q] at h
      have hm : m = 0 := by
        have := congrArg (fun o => (o.map (·.1)).getD 0) h
        simp at this; omega
      subst hm
      refine ⟨hn.2, fun k' => ?_⟩
      show mget l k' = _
      rw [mget]
      by_cases r : k' = k
      · rw [if_pos r, r, ← q]; exact mget_not hn.1
      · rw [if_neg r, if_neg (fun s => r (s.symm.trans q))]
    · rw [if_neg q] at h
      obtain ⟨_, m', h2, _, _⟩ := mfind_some h
      obtain rfl : m = m' + 1 := by omega
      have h3 : mfind l k (i + 1) = some (i + 1 + m', w) := by rw [h, h2]
      obtain ⟨e1, e2⟩ := merase_get hn.2 h3
      refine ⟨?_, fun k' => ?_⟩
      · show (p.1 :: (l.eraseIdx m').map (·.1)).Nodup
        rw [List.nodup_cons]
        refine ⟨fun hm => hn.1 ?_, e1⟩
        obtain ⟨x, hx, hxe⟩ := List.mem_map.1 hm
        exact List.mem_map.2 ⟨x, List.mem_of_mem_eraseIdx hx, hxe⟩
      · show mget (p :: l.eraseIdx m') k' = _
        rw [mget, mget, e2]
        by_cases r : k' = k
        · subst r; simp [q]
        · simp [r]
theorem mEnts_set (L : List MEn) (j : Nat) (k : Int) (v : Value) : (mEnts L).modify j (fun e => { e with key := .int .i64 k, val := v }) = mEnts (mset L j k v) := by
  apply Array.ext'
  rw [Array.toList_modify, mEnts, mEnts, mset, List.toList_toArray, List.toList_toArray]
  apply List.ext_getElem?
  intro i
  simp only [List.getElem?_modify, List.getElem?_map]
  cases L[i]? with
  | none => simp
  | some e => by_cases h : j = i <;> simp [h, mEnt]
theorem mEnts_push (L : List MEn) (k : Int) (v : Value) (c : Nat) : (mEnts L).push { key := .int .i64 k, val := v, born := c } = mEnts (L ++ [(k, v, c)]) := by
  apply Array.ext'
  simp [mEnts, mEnt]
theorem mEnts_erase (L : List MEn) (j : Nat) (h : j < L.length) : (mEnts L).eraseIdxIfInBounds j = mEnts (L.eraseIdx j) := by
  apply Array.ext'
  rw [Array.eraseIdxIfInBounds_eq, dif_pos (by simpa [mEnts] using h), Array.toList_eraseIdx, mEnts, mEnts, List.toList_toArray, List.toList_toArray]
  apply List.ext_getElem?
  intro i
  simp only [List.getElem?_eraseIdx, List.getElem?_map]
  split <;> rfl
def mapH (b : Nat) (f : Int → Option Value) : HP := chk (fun C => ∃ (L : List MEn) (clock : Nat), (L.map (·.1)).Nodup ∧ (∀ k, mget L k = f k) ∧ C = [pt b (.map (mEnts L) clock)])
def mupd (f : Int → Option Value) (k : Int) (o : Option Value) : Int → Option Value := fun k' => if k' = k then o else f k'
section
variable {rd : Option Nat} {P : Program} {S : World → Prop} {W0 : World} {N : FSz} {e : Env} {A B R : List HP}
variable {op : Op} {ty t K E : TypeId} {v z : Value} {b : Nat} {x y u : Operand} {f : Int → Option Value} {k : Int}
theorem Own.mapL {w : World} (h : Own W0 w (mapH b f :: R)) : ∃ (L : List MEn) (clock : Nat), (L.map (·.1)).Nodup ∧ (∀ k, mget L k = f k) ∧ Own W0 w (pt b (.map (mEnts L) clock) :: R) := by
  obtain ⟨C, ⟨L, c, h1, h2, rfl⟩, hO⟩ := h.chk
  exact ⟨L, c, h1, h2, hO⟩
theorem ent_mapH {L : List MEn} {c : Nat} (h1 : (L.map (·.1)).Nodup) (h2 : ∀ k, mget L k = f k) : Ent (pt b (.map (mEnts L) c) :: R) (mapH b f :: R) := ent_chk (R := R) (C := [_]) ⟨L, c, h1, h2, rfl⟩
theorem run_checkKey {w : World} {em : Bool} (hK : P.underlying K = some (.int .i64)) : (Instr.checkKey em 10000 K (.int .i64 k)).run P w = .ok () w := by
  exact MapKept.run_checkKey hK (by trivial) em 9999
theorem run_findKey {w : World} (hK : P.underlying K = some (.int .i64)) (L : List MEn) : (Instr.findKey K (.int .i64 k) (mEnts L).toList).run P w = .ok (mfind L k 0) w := by
  simp only [Instr.findKey, Sem.run_bind, run_und hK, Result.andThen_ok, mEnts, List.toList_toArray, findNow_ents, Sem.run_pure]
theorem q_map_nil {d : Nat} {m : Option Nat} (hu : P.underlying t = some (.map K E)) : EqN P (d + 1) t (.map m) (.map none) m.isNone := fun w => by
  cases m <;> simp [Op.equalIn, run_und hu]
theorem v_eql_map_nil {t' : TypeId} {m : Option Nat} (hu : P.underlying t = some (.map K E)) (hx : ev e x = some (.map m)) (hy : ev e y = some (.map none)) : Val P S N e (.binOp .eql t x y t') (.bool m.isNone) :=
  binVal hx hy (fun w x y => by simp [eqGuard]) (run_eql rfl (q_map_nil hu))
theorem v_lookup [h : Tk mapH b A f R] (hu : P.underlying t = some (.map K E)) (hK : P.underlying K = some (.int .i64)) (hz : ∀ w, (zeroValue E).run P w = .ok z w) (hx : ev e x = some (.map (some b))) (hy : ev e y = some (.int .i64 k)) :
    Val P (OwnP W0 A) N e (.lookup t x y false) ((f k).getD z) := fun a w _ _ _ _ _ hF hO => by
  obtain ⟨L, c, h1, h2, hO1⟩ := Own.mapL (Own.tk (r := mapH) (b := b) hO)
  have hb := hO1.has.2
  have hg := h2 k
  have hrun : (Instr.lookup t (.map (some b)) (.int .i64 k) false).run P w = .ok ((f k).getD z) w := by
    simp only [Instr.lookup, Sem.run_bind, Sem.run_pure, run_und hu, Result.andThen_ok, MapKept.run_getObj_map hb, run_checkKey hK, run_findKey hK]
    cases hm : mfind L k 0 with
    | none =>
      rw [(mfind_none hm).1] at hg
      rw [← hg]
      simp [hz]
    | some p =>
      obtain ⟨j, v⟩ := p
      rw [(mfind_some hm).1] at hg
      rw [← hg]
      simp
  simp only [execOp, hF.eval hx, hF.eval hy, Sem.run_bind, hrun, Result.andThen_ok, Sem.run_pure]
theorem v_lookupV [h : Tk mapH b A f R] (hu : P.underlying t = some (.map K E)) (hK : P.underlying K = some (.int .i64)) (hz : ∀ w, (zeroValue E).run P w = .ok z w) (hx : ev e x = some (.map (some b))) (hy : ev e y = some (.int .i64 k)) (hv : (f k).getD z = v) :
    Val P (OwnP W0 A) N e (.lookup t x y false) v := hv ▸ v_lookup hu hK hz hx hy
theorem d_makeMap : Does P W0 N e A (.makeMap t none) (fun v B => ∃ b, v = .map (some b) ∧ B = mapH b (fun _ => none) :: A) := does_run fun a w _ _ _ _ _ hF hO => by
  refine ⟨_, w.alloc (.map #[] 0), _, .inl ?_, ⟨w.heap.size, rfl, rfl⟩, ?_⟩
  · simp [execOp, Instr.makeMap, newObj, Sem.run]
  · have hn := hO.new (.map (mEnts []) 0)
    exact hn.ent (ent_mapH (L := []) (by simp) (fun _ => rfl))
theorem d_mapUpdate [h : Tk mapH b A f R] (hu : P.underlying t = some (.map K E)) (hK : P.underlying K = some (.int .i64)) (hx : ev e x = some (.map (some b))) (hy : ev e y = some (.int .i64 k)) (hv : ev e u = some v) :
    Does P W0 N e A (.mapUpdate t x y u) (fun _ B => B = mapH b (mupd f k (some v)) :: R) := does_run fun a w _ _ _ _ _ hF hO => by
  obtain ⟨L, c, h1, h2, hO1⟩ := Own.mapL (Own.tk (r := mapH) (b := b) hO)
  have hb := hO1.has.2
  have hlt : b < w.heap.size := by
    rcases Nat.lt_or_ge b w.heap.size with q | q
    · exact q
    · rw [Array.getElem?_eq_none q] at hb; cases hb
  cases hm : mfind L k 0 with
  | none =>
    obtain ⟨g1, g2⟩ := mfind_none hm
    refine ⟨_, w.putObj b (.map ((mEnts L).push { key := .int .i64 k, val := v, born := c }) (c + 1)), _, .inr ⟨?_, rfl⟩, rfl, ?_⟩
    · simp only [execOp, hF.eval hx, hF.eval hy, hF.eval hv, Instr.mapUpdate, Sem.run_bind, Sem.run_pure, run_und hu, Result.andThen_ok, MapKept.run_getObj_map hb, MapKept.run_setObj_map _ hb, run_checkKey hK, run_findKey hK, hm]
      simp [World.putObj, hlt]
    · rw [mEnts_push]
      refine (hO1.turn _).ent (ent_mapH ?_ fun k' => ?_)
      · rw [List.map_append]
        exact List.nodup_append.2 ⟨h1, by simp, fun a ha b hb => by
          simp at hb; subst hb
          intro q; subst q; exact g2 ha⟩
      · rw [mpush_get g2, h2]; rfl
  | some p =>
    obtain ⟨j, v0⟩ := p
    obtain ⟨g1, m, g2, g3, g5⟩ := mfind_some hm
    obtain rfl : j = m := by omega
    have g4 : mfind L k 0 = some (0 + j, v0) := by rw [Nat.zero_add]; exact hm
    obtain ⟨e1, e2⟩ := mset_get (v := v) g4
    have hkey : (((mEnts L)[j]?).map (·.key)).getD (.int .i64 k) = .int .i64 k := by
      rw [mEnts, List.getElem?_toArray, List.getElem?_map]
      cases hq : L[j]? with
      | none => rw [hq] at g5; cases g5
      | some q => rw [hq] at g5; simp at g5; simp [mEnt, g5]
    refine ⟨_, w.putObj b (.map ((mEnts L).modify j fun e => { e with key := .int .i64 k, val := v }) c), _, .inr ⟨?_, rfl⟩, rfl, ?_⟩
    · simp only [execOp, hF.eval hx, hF.eval hy, hF.eval hv, Instr.mapUpdate, Sem.run_bind, Sem.run_pure, run_und hu, Result.andThen_ok, MapKept.run_getObj_map hb, MapKept.run_setObj_map _ hb, run_checkKey hK, run_findKey hK, hm, hkey, Instr.keyThatStays]
      simp [World.putObj, hlt, Instr.sameBits, MapKept.run_setObj_map _ hb]
    · rw [mEnts_set]
      exact (hO1.turn _).ent (ent_mapH (by rw [e1]; exact h1) fun k' => by rw [e2, h2]; rfl)
theorem d_delete [h : Tk mapH b A f R] {t' : TypeId} (hu : P.underlying t = some (.map K E)) (hK : P.underlying K = some (.int .i64)) (hx : ev e x = some (.map (some b))) (hy : ev e y = some (.int .i64 k)) :
    Does P W0 N e A (.call { callee := .builtin .delete, args := #[x, y], argTypes := #[t, t'] }) (fun v B => v = .tuple #[] ∧ B = mapH b (mupd f k none) :: R) := does_run fun a w _ _ _ _ _ hF hO => by
  obtain ⟨L, c, h1, h2, hO1⟩ := Own.mapL (Own.tk (r := mapH) (b := b) hO)
  have hb := hO1.has.2
  have hlt : b < w.heap.size := by
    rcases Nat.lt_or_ge b w.heap.size with q | q
    · exact q
    · rw [Array.getElem?_eq_none q] at hb; cases hb
  cases hm : mfind L k 0 with
  | none =>
    obtain ⟨g1, g2⟩ := mfind_none hm
    refine ⟨_, w.putObj b (.map (mEnts L) c), _, .inl ?_, ⟨rfl, rfl⟩, ?_⟩
    · simp only [execOp, resolve, invoke, builtin, List.map_toArray, List.map_cons, List.map_nil, hF.eval hx, hF.eval hy, Builtin.delete_, List.getElem?_toArray, List.getElem?_cons_zero, List.getElem?_cons_succ, Sem.run_bind, Sem.run_pure, run_und hu, Result.andThen_ok, MapKept.run_getObj_map hb, MapKept.run_setObj_map _ hb, run_checkKey hK, run_findKey hK, hm]
      simp [World.putObj, hlt]
    · refine (hO1.turn _).ent (ent_mapH h1 fun k' => ?_)
      rw [h2]
      show f k' = if k' = k then none else f k'
      by_cases q : k' = k
      · rw [if_pos q, q, ← h2]; exact g1
      · rw [if_neg q]
  | some p =>
    obtain ⟨j, v0⟩ := p
    obtain ⟨g1, m, g2, g3, g5⟩ := mfind_some hm
    obtain rfl : j = m := by omega
    have g4 : mfind L k 0 = some (0 + j, v0) := by rw [Nat.zero_add]; exact hm
    obtain ⟨e1, e2⟩ := merase_get h1 g4
    refine ⟨_, w.putObj b (.map ((mEnts L).eraseIdxIfInBounds j) c), _, .inl ?_, ⟨rfl, rfl⟩, ?_⟩
    · simp only [execOp, resolve, invoke, builtin, List.map_toArray, List.map_cons, List.map_nil, hF.eval hx, hF.eval hy, Builtin.delete_, List.getElem?_toArray, List.getElem?_cons_zero, List.getElem?_cons_succ, Sem.run_bind, Sem.run_pure, run_und hu, Result.andThen_ok, MapKept.run_getObj_map hb, MapKept.run_setObj_map _ hb, run_checkKey hK, run_findKey hK, hm]
      simp [World.putObj, hlt]
    · rw [mEnts_erase _ _ g3]
      exact (hO1.turn _).ent (ent_mapH e1 fun k' => by rw [e2, h2]; rfl)
end
end Go.Proofs.YtlnmofhehcilhaaGreat
namespace Go.Proofs.YtlnmofhehcilhaaGreat
open Go.RowKit
set_option linter.unusedSimpArgs false
set_option linter.unusedVariables false
section
variable {P : Program} {S : World → Prop} {W0 : World} {N : FSz} {e : Env} {A R : List HP} {t t' ty : TypeId} {b off : Nat} {x y : Operand} {l l' : List Value}
theorem eqItems_ints {E : TypeId} {k k' : IntKind} (ha : ∀ w, (isAgg E).run P w = .ok false w) (he : P.underlying E = some (.int k')) (D : Nat) (w : World) :
    ∀ (m s : Nat) (ms ns : List Int), ms.length = s + m → ns.length = s + m →
      (Op.eqItems (D + 1) E 1 (ms.map (Value.int k)).toArray (ns.map (Value.int k)).toArray (List.range' s m)).run P w = .ok (ms.drop s == ns.drop s) w
  | 0, s, ms, ns, h1, h2 => by
    rw [show ms.drop s = [] from List.drop_eq_nil_of_le (by omega), show ns.drop s = [] from List.drop_eq_nil_of_le (by omega)]
    simp [Op.eqItems]
  | m + 1, s, ms, ns, h1, h2 => by
    have e1 : (ms.map (Value.int k))[s]? = some (.int k ms[s]) := by simp [show s < ms.length by omega]
    have e2 : (ns.map (Value.int k))[s]? = some (.int k ns[s]) := by simp [show s < ns.length by omega]
    have d1 : ms.drop s = ms[s] :: ms.drop (s + 1) := List.drop_eq_getElem_cons (by omega)
    have d2 : ns.drop s = ns[s] :: ns.drop (s + 1) := List.drop_eq_getElem_cons (by omega)
    have ih := eqItems_ints (k := k) ha he D w m (s + 1) ms ns (by omega) (by omega)
    rw [List.range'_succ, d1, d2]
    simp only [Op.eqItems, Nat.mul_one, Sem.run_bind, part_scal ha e1 w, part_scal ha e2 w, Result.andThen_ok, run_equalIn_int w D E k k' _ _ he]
    by_cases h : ms[s] = ns[s]
    · have hb3 : ((ns[s] :: ms.drop (s + 1)) == (ns[s] :: ns.drop (s + 1))) = (ms.drop (s + 1) == ns.drop (s + 1)) := by
        rw [Bool.eq_iff_iff, beq_iff_eq, beq_iff_eq]
        exact ⟨fun q => (List.cons.inj q).2, fun q => by rw [q]⟩
      rw [h, hb3]
      simp only [beq_self_eq_true, Bool.not_true, Bool.false_eq_true, if_false]
      exact ih
    · have hb : (ms[s] == ns[s]) = false := by simpa using h
      rw [hb]
      have hb2 : ((ms[s] :: ms.drop (s + 1)) == (ns[s] :: ns.drop (s + 1))) = false := by
        rw [← Bool.not_eq_true, beq_iff_eq]
        intro q
        exact h (List.cons.inj q).1
      rw [hb2]
      simp
theorem q_arrI {E n z : Nat} {k k' : IntKind} {i : TypeInfo} {ms ns : List Int} {us vs : List Value} (hu : P.underlying t = some (.array n E)) (hi : P.info? E = some i) (hc : P.cellsOf E = 1) (he : P.underlying E = some (.int k')) (ha : ∀ w, (isAgg E).run P w = .ok false w)
    (h1 : us = ms.map (Value.int k)) (h2 : vs = ns.map (Value.int k)) (l1 : ms.length = n) (l2 : ns.length = n) : EqN P (z + 2) t (.agg us.toArray) (.agg vs.toArray) (ms == ns) := fun d w => by
  subst h1; subst h2
  rw [show d + (z + 2) = (d + z + 1) + 1 by omega, run_equalIn_array w (d + z + 1) _ _ hu hi, hc, List.range_eq_range', eqItems_ints ha he (d + z) w n 0 ms ns (by omega) (by omega)]
  simp
theorem d_copyStr {E sz dn dc m : Nat} {s : ByteArray} (hu : P.underlying t = some (.slice E)) (hs : ∀ w, (sizeOf E).run P w = .ok sz w) (hx : ev e x = some (.slice (some ⟨b, off, none⟩) dn dc)) (hy : ev e y = some (.string s))
    [h : Tk pt b A (cob l ty) R] (hm : Nat.min s.size dn = m) (ho : off + m ≤ l.length) (hr : setR l off ((s.data.toList.take m).map fun b => Value.int .u8 b.toNat) = l') :
    Does P W0 N e A (.call { callee := .builtin .copy, args := #[x, y], argTypes := #[t, t'] }) (fun v B => v = .int .i64 m ∧ B = pt b (cob l' ty) :: R) := by
  intro a w dst ty' pos af g K Q hF hO k
  have hO' := hO.tk (r := pt) (b := b)
  have hml : m ≤ s.data.toList.length := by
    have : m ≤ s.size := by rw [← hm]; exact Nat.min_le_left ..
    exact this
  have hcells : ((s.extract 0 m).data.map fun b => Value.int .u8 b.toNat).toList = (s.data.toList.take m).map fun b => Value.int .u8 b.toNat := by
    simp [ByteArray.data_extract, List.extract_eq_take_drop]
  obtain ⟨w', hst, hO''⟩ := storeCells_own (P := P) (off := off) ((s.data.toList.take m).map fun b => Value.int .u8 b.toNat) 0 hO' (by rw [List.length_map, List.length_take]; omega) (fun v hv => by
    obtain ⟨q, _, rfl⟩ := List.mem_map.1 hv; rfl)
  rw [Nat.add_zero, hr] at hO''
  have hexec : (execOp a.eval { dst := dst, op := .call { callee := .builtin .copy, args := #[x, y], argTypes := #[t, t'] }, type := ty', pos := pos, after := af, guard := g }).run P w = .ok (.value (.int .i64 m)) w' := by
    simp only [execOp, resolve, invoke, builtin, Sem.run_bind, Sem.run_pure, Result.andThen_ok, List.map_toArray, List.map_cons, List.map_nil, hF.eval hx, hF.eval hy, Builtin.copy_, Builtin.lenOf, Builtin.firstCells, run_und hu, hs]
    have hs' : (sizeOf E).run P w = .ok sz w := hs w
    simp only [hm, Array.getElem?_eq_getElem, List.getElem?_toArray, List.getElem?_cons_zero, List.getElem?_cons_succ, Sem.run_bind, Sem.run_pure, Result.andThen_ok, run_und hu, hs', hcells, hst, goInt]
  unfold Oper.wp
  rw [hexec]
  exact k _ w' _ ⟨rfl, rfl⟩ hO''
end
end Go.Proofs.YtlnmofhehcilhaaGreat
namespace Go.Proofs.YtlnmofhehcilhaaGreat
open Go.RowKit
set_option linter.unusedSimpArgs false
set_option linter.unusedVariables false
set_option maxRecDepth 20000
def z16 : List Nat := List.replicate 16 0
structure Dk where
  rs : List Rn
  lb : List Int
  ss : List (List Nat)
def secD (ss : List (List Nat)) (i : Nat) : List Nat := ss.getD i z16
def dkF (ss : List (List Nat)) : Int → Option Value := fun k => if 0 ≤ k ∧ k < 32 then (if secD ss k.toNat = z16 then none else some (.agg (byV (secD ss k.toNat)).toArray)) else none
structure DkOk (x : Dk) : Prop where
  tb : TbOk x.rs
  rl : x.rs.length ≤ 8
  ll : x.lb.length ≤ 8
  wh : ∀ i w, whF x.rs i = some w → 0 ≤ w ∧ w < x.lb.length
  sl : x.ss.length = 32
  sb : ∀ b ∈ x.ss, b.length = 16 ∧ By b
theorem z16_ok : z16.length = 16 ∧ By z16 := ⟨by decide, fun x hx => by
  have := List.eq_of_mem_replicate hx; omega⟩
theorem DkOk.sec {x : Dk} (h : DkOk x) (i : Nat) : (secD x.ss i).length = 16 ∧ By (secD x.ss i) := by
  unfold secD
  rcases Nat.lt_or_ge i x.ss.length with q | q
  · rw [show x.ss.getD i z16 = x.ss[i] by simp [List.getD, q]]; exact h.sb _ (List.getElem_mem q)
  · rw [show x.ss.getD i z16 = z16 by simp [List.getD, q]]; exact z16_ok
@[reducible] def dkO (bt bm : Nat) (aL : Option Addr) (n cL : Nat) : Obj := cob [.pointer (some ⟨bt, 0, none⟩), .slice aL n cL, .map (some bm)] 217
def dkH (d : Nat) (x : Dk) : HP := chk (fun C => ∃ bt bm aL cL, C = [pt d (dkO bt bm aL x.lb.length cL), tabH bt (x.rs, 32), osl 3 1 (.slice aL x.lb.length cL) (x.lb.flatMap inI), mapH bm (dkF x.ss)])
section
variable {W0 : World} {N : FSz} {K : Act → World → Prop} {e : Env} {A B R R1 R2 R3 R4 : List HP} {d : Nat} {x : Dk}
theorem run_dk [hk : Tk dkH d A x R] (h : ∀ bt bm aL cL, Run W0 N K e (pt d (dkO bt bm aL x.lb.length cL) :: tabH bt (x.rs, 32) :: osl 3 1 (.slice aL x.lb.length cL) (x.lb.flatMap inI) :: mapH bm (dkF x.ss) :: R)) : Run W0 N K e A :=
  run_tk (r := dkH) (b := d) (run_chk fun C hC => by obtain ⟨bt, bm, aL, cL, rfl⟩ := hC; exact h bt bm aL cL)
theorem ent_dk {bt bm n cL : Nat} {aL : Option Addr} {rs : List Rn} {ys : List Value} {f : Int → Option Value} [h1 : Tk pt d A (dkO bt bm aL n cL) R1] [h2 : Tk tabH bt R1 (rs, 32) R2] [h3 : Tk (osl 3 1) (.slice aL n cL) R2 ys R3] [h4 : Tk mapH bm R3 f R4]
    (e1 : rs = x.rs) (e2 : ys = x.lb.flatMap inI) (e3 : f = dkF x.ss) (e4 : n = x.lb.length) [k : Ent R4 B] : Ent A (dkH d x :: B) := by
  subst e1; subst e2; subst e3; subst e4
  have e : A.Perm ([pt d (dkO bt bm aL x.lb.length cL), tabH bt (x.rs, 32), osl 3 1 (.slice aL x.lb.length cL) (x.lb.flatMap inI), mapH bm (dkF x.ss)] ++ R4) := h1.perm.trans ((h2.perm.trans ((h3.perm.trans (h4.perm.cons _)).cons _)).cons _)
  exact (Ent.ofPerm e).trans ((ent_chk (R := R4) ⟨bt, bm, aL, cL, rfl⟩).trans (Ent.cons k))
end
theorem dkNone_spec (W0 : World) (R : List HP) (d bt bm n cL : Nat) (aL : Option Addr) : Spec Tryz.prog W0 149 [.pointer (some ⟨d, 0, none⟩)] (pt d (dkO bt bm aL n cL) :: R) (fun v B => v = .bool false ∧ B = pt d (dkO bt bm aL n cL) :: R) := by
  refine spec_body Tryz.func149 Tryz.ntmps149 rfl rfl ?_
  refine x_seq (x_region (s_val rfl (v_assign rfl) (x_nil (n_then (x_seq (x_region (s_val rfl (v_move rfl) (s_val rfl (v_eql_ptr_nil Tryz.underlying93 rfl rfl) (s_val rfl (v_move rfl) ?_)))))))))
  refine s_or rfl rfl rfl ?_ ?_
  · intro g1_3
    cases g1_3
  · intro g1_3
    refine s_val rfl (v_move rfl) (s_yes rfl rfl (s_val rfl (v_nilCheck rfl) (s_yes rfl rfl ?_)))
    refine s_val rfl (v_fieldAddr rfl Tryz.underlying217 rfl Tryz.sizeOf215 rfl (by first | exact Nat.zero_add _ | rfl)) ?_
    refine s_yes rfl rfl (s_val rfl (v_load Tryz.isAgg215 rfl (cell_own rfl)) ?_)
    refine s_yes rfl rfl (s_val rfl (v_eql_map_nil Tryz.underlying215 rfl rfl) ?_)
    refine s_val rfl (v_pick_f rfl rfl) (s_val rfl (v_assign rfl) (x_nil (n_then (x_ret (x_done (.inl rfl) (.cons (r_tmp rfl) .nil) ?_)))))
    exact ⟨_, ⟨rfl, rfl⟩, inferInstance⟩
def lbW (x : Dk) (at_ : Int) : Option Int := (whR x.rs 32 at_).map fun r => x.lb.getD r.toNat 0
theorem dkLabel_spec (W0 : World) (R : List HP) (d : Nat) (x : Dk) (hx : DkOk x) (at_ : Int) :
    Spec Tryz.prog W0 138 [.pointer (some ⟨d, 0, none⟩), .int .i64 at_] (dkH d x :: R) (fun v B => v = .tuple #[.int .i64 ((lbW x at_).getD 0), .int .i64 (if (lbW x at_).isSome then 0 else 3)] ∧ B = dkH d x :: R) := by
  obtain ⟨o, ho⟩ : ∃ o, whR x.rs 32 at_ = o := ⟨_, rfl⟩
  have hlb : lbW x at_ = o.map fun r => x.lb.getD r.toNat 0 := by rw [lbW, ho]
  have hrl := hx.rl
  refine spec_body Tryz.func138 Tryz.ntmps138 rfl rfl ?_
  refine x_seq (x_region (s_val rfl (v_assign rfl) (s_val rfl (v_assign rfl) (x_nil (n_then (x_seq (x_seq ?_)))))))
  refine run_dk (d := d) fun bt bm aL cL => ?_
  refine x_region (s_val rfl (v_move rfl) (s_do rfl (d_call1 Tryz.call149 rfl (dkNone_spec W0 _ d bt bm x.lb.length cL aL)) ?_))
  rintro _ B_ ⟨rfl, hB_⟩
  obtain rfl := hB_.symm
  refine x_nil (n_then ?_)
  refine x_if rfl ?_ ?_
  · intro c1
    exact absurd c1 (by decide)
  · intro c1
    refine x_skip (n_then (x_seq (x_region (s_val rfl (v_move rfl) (s_val rfl (v_nilCheck rfl) ?_)))))
    refine s_val rfl (v_fieldAddr rfl Tryz.underlying217 rfl Tryz.sizeOf212 rfl (by first | exact Nat.zero_add _ | rfl)) ?_
    refine s_val rfl (v_load Tryz.isAgg212 rfl (cell_own rfl)) ?_
    refine s_val rfl (v_move rfl) ?_
    refine s_do rfl (d_call1 Tryz.call151 rfl (paWho_spec W0 _ bt x.rs 32 hx.tb (by omega) at_)) ?_
    rintro _ B_ ⟨rfl, hB_⟩
    obtain rfl := hB_.symm
    rw [ho]
    refine s_val rfl (v_move rfl) (s_val rfl (v_extract rfl rfl) (s_val rfl (v_extract rfl rfl) (s_val rfl (v_assign rfl) (s_val rfl (v_assign rfl) (x_nil (n_then (x_seq (x_seq (x_region (s_val rfl (v_move rfl) (s_val rfl (v_not rfl) (x_nil (n_then ?_)))))))))))))
    refine x_if rfl ?_ ?_
    · intro c4
      refine x_seq (x_region (s_val rfl (v_assign rfl) (s_val rfl (v_assign rfl) (x_nil (n_then (x_ret (r_then (x_done (.inl rfl) (.cons (r_tmp rfl) (.cons (r_tmp rfl) .nil)) ?_))))))))
      have hn : o = none := by
        cases o with
        | none => rfl
        | some r => exact absurd rfl c4
      subst hn
      rw [hlb]
      exact ⟨_, ⟨rfl, rfl⟩, ent_dk rfl rfl rfl rfl⟩
    · intro c4
      obtain ⟨r, rfl⟩ : ∃ r, o = some r := by
        cases o with
        | none => exact absurd (by decide) c4
        | some r => exact ⟨r, rfl⟩
      have hwf : whF x.rs at_ = some r := by
        unfold whR at ho
        split at ho
        · cases ho
        · exact ho
      obtain ⟨hr0, hr1⟩ := hx.wh at_ r hwf
      obtain ⟨k, rfl⟩ : ∃ k : Nat, r = (k : Int) := ⟨r.toNat, by omega⟩
      have hk : k < x.lb.length := by omega
      refine run_sla (E := 3) (sz := 1) (a := aL) (n := x.lb.length) (c := cL) inI x.lb (fun _ => rfl) (by decide) rfl (fun hs => ?_)
      obtain ⟨g, o, rfl, hc⟩ := hs.at_ hk
      have hgk : x.lb.getD ((k : Nat) : Int).toNat 0 = x.lb[k] := by rw [Int.toNat_natCast]; simp [List.getD, hk]
      refine x_skip (n_then (x_seq (x_region (s_val rfl (v_move rfl) (s_val rfl (v_nilCheck rfl) ?_)))))
      refine s_val rfl (v_fieldAddr rfl Tryz.underlying217 rfl Tryz.sizeOf38 rfl (by first | exact Nat.zero_add _ | rfl)) ?_
      refine s_val rfl (v_load Tryz.isAgg38 rfl (cell_own rfl)) ?_
      refine s_val rfl (v_move rfl) ?_
      refine s_val rfl (v_idx Tryz.underlying38 Tryz.sizeOf3 rfl rfl rfl hk (by first | exact Nat.zero_add _ | rfl)) ?_
      refine s_val rfl (v_load Tryz.isAgg3 rfl (Cells.weak hc 0 _ rfl)) ?_
      refine s_val rfl (v_assign rfl) (s_val rfl (v_assign rfl) (x_nil (n_then (x_ret (x_done (.inl rfl) (.cons (r_tmp rfl) (.cons (r_tmp rfl) .nil)) ?_)))))
      rw [hlb]
      simp only [Option.map_some, Option.getD_some, Option.isSome_some, if_true, hgk]
      exact ⟨_, ⟨rfl, rfl⟩, ent_dk rfl rfl rfl rfl⟩
def dkSet (x : Dk) (k : Nat) (b : List Nat) : Dk := { x with ss := x.ss.set k b }
theorem dkSet_ok {x : Dk} (h : DkOk x) {k : Nat} {b : List Nat} (hb : b.length = 16 ∧ By b) : DkOk (dkSet x k b) :=
  ⟨h.tb, h.rl, h.ll, h.wh, by simp [dkSet, h.sl], fun c hc => by
    rcases List.mem_or_eq_of_mem_set hc with q | q
    · exact h.sb c q
    · rw [q]; exact hb⟩
theorem dkF_set {ss : List (List Nat)} {k : Nat} {b : List Nat} (hl : ss.length = 32) (hk : k < 32) : dkF (ss.set k b) = mupd (dkF ss) (k : Int) (if b = z16 then none else some (.agg (byV b).toArray)) := by
  funext j
  unfold mupd dkF secD
  by_cases hj : j = (k : Int)
  · subst hj
    rw [if_pos (by omega), if_pos rfl, Int.toNat_natCast, show (ss.set k b).getD k z16 = b by simp [List.getD, hl, hk]]
  · rw [if_neg hj]
    by_cases h2 : 0 ≤ j ∧ j < 32
    · rw [if_pos h2, if_pos h2]
      have hne : ¬ k = j.toNat := by omega
      have e : (ss.set k b).getD j.toNat z16 = ss.getD j.toNat z16 := by simp [List.getD, List.getElem?_set, hne]
      rw [e]
    · rw [if_neg h2, if_neg h2]
theorem run_where {W0 : World} {N : FSz} {K : Act → World → Prop} {e : Env} {A R : List HP} {E sz : Nat} {vi : Value} {ys : List Value} [h : Tk (osl E sz) vi A ys R] (hne : ys ≠ []) (k : ∀ g n c, vi = .slice (some ⟨g, 0, none⟩) n c → ys.length = n * sz → Run W0 N K e A) : Run W0 N K e A := fun act w hF hO => by
  rcases (hO.tk (r := osl E sz) (b := vi)).osl with ⟨_, k2, _⟩ | ⟨g, n', cap, sp, k1, _, _, k4, _, _⟩
  · exact absurd k2 hne
  · exact k g n' cap k1 k4 act w hF hO
theorem ent_dkS {A B R1 R2 R3 R4 : List HP} {d bt bm n cL k : Nat} {x : Dk} {b : List Nat} {aL : Option Addr} {rs : List Rn} {ys : List Value} {f : Int → Option Value} [h1 : Tk pt d A (dkO bt bm aL n cL) R1] [h2 : Tk tabH bt R1 (rs, 32) R2] [h3 : Tk (osl 3 1) (.slice aL n cL) R2 ys R3] [h4 : Tk mapH bm R3 f R4]
    (e1 : rs = x.rs) (e2 : ys = x.lb.flatMap inI) (e3 : f = dkF (x.ss.set k b)) (e4 : n = x.lb.length) [Ent R4 B] : Ent A (dkH d (dkSet x k b) :: B) := ent_dk (x := dkSet x k b) e1 e2 e3 e4
theorem sla_whole {S : World → Prop} {a : Option Addr} {bs : List Nat} (hs : SlA S a 1 (fun x => [bV x]) bs) (h : 0 < bs.length) : ∃ b off, a = some ⟨b, off, none⟩ ∧ Cells S b off (byV bs) := by
  obtain ⟨b, off, rfl, _⟩ := hs 0 bs[0] (by simp [h])
  refine ⟨b, off, rfl, fun i v hi => ?_⟩
  have hi' : i < bs.length := by
    have := (List.getElem?_eq_some_iff.1 hi).1
    rwa [byV_len] at this
  have hv : bV bs[i] = v := by
    have := (List.getElem?_eq_some_iff.1 hi).2
    rw [← this]; simp [byV]
  obtain ⟨b', off', e, hc⟩ := hs i bs[i] (by simp [hi'])
  cases e
  have := hc 0 v (by rw [← hv]; rfl)
  rwa [Nat.mul_one, Nat.add_zero] at this
theorem byV_ints (b : List Nat) : byV b = (b.map Int.ofNat).map (Value.int .u8) := by simp [byV, bV]
theorem ints_eq {a b : List Nat} : (a.map Int.ofNat == b.map Int.ofNat) = decide (a = b) := by
  rw [Bool.eq_iff_iff, beq_iff_eq, decide_eq_true_iff]
  exact ⟨fun h => (List.map_inj_right (fun x y h => Int.ofNat.inj h)).1 h, fun h => by rw [h]⟩
theorem dkPut_spec (W0 : World) (R : List HP) (d : Nat) (x : Dk) (hx : DkOk x) (k : Nat) (hk : k < 32) (bb off c : Nat) (bs : List Nat) (hb : bs.length = 16 ∧ By bs) (hc : Cells (OwnP W0 R) bb off (byV bs)) :
    Spec Tryz.prog W0 139 [.pointer (some ⟨d, 0, none⟩), .int .i64 k, .slice (some ⟨bb, off, none⟩) 16 c] (dkH d x :: R) (fun v B => v = .tuple #[] ∧ B = dkH d (dkSet x k bs) :: R) := by
  refine spec_body Tryz.func139 Tryz.ntmps139 rfl rfl ?_
  refine x_seq (x_region (s_do rfl (d_allocA Tryz.zeroValue311) ?_))
  rintro _ _ ⟨bs_, rfl, rfl⟩
  refine x_nil (n_then (x_seq (x_region (s_val rfl (v_sliceArr Tryz.underlying311 Tryz.sizeOf5 rfl) ?_))))
  refine s_val rfl (v_move rfl) ?_
  refine s_do rfl (d_copy Tryz.underlying44 Tryz.sizeOf5 rfl rfl (m := 16) (vs := byV bs) rfl hc.weak (by rw [byV_len, hb.1]) (byV_one _) (by decide) (by have := setR_all (byV bs) (List.replicate 16 (.int .u8 0)) [] (by rw [byV_len, hb.1]; rfl); simpa using this)) ?_
  rintro _ B_ ⟨rfl, hB_⟩
  obtain rfl := hB_.symm
  refine x_nil (n_then (x_seq (x_seq (x_region ?_))))
  refine s_val rfl (v_loadAll Tryz.isAgg311 Tryz.sizeOf311 rfl (by rw [byV_len]; exact hb.1)) ?_
  refine s_val rfl (v_build0 Tryz.underlying311 Tryz.sizeOf5 Tryz.zeroValue311 rfl) ?_
  refine s_val rfl (v_eql_agg Tryz.eqGuardType311 rfl rfl (q_arrI (i := Tryz.t5) (ms := bs.map Int.ofNat) (ns := z16.map Int.ofNat) Tryz.underlying311 (by kernel_rfl) (by kernel_rfl) Tryz.underlying5 Tryz.isAgg5 (byV_ints bs) rfl (by rw [List.length_map]; exact hb.1) rfl)) ?_
  refine x_nil (n_then ?_)
  refine x_if rfl ?_ ?_
  · intro c2
    refine x_seq ?_
    have hz : bs = z16 := by rw [ints_eq] at c2; exact of_decide_eq_true c2
    refine run_dk (d := d) fun bt bm aL cL => ?_
    refine x_region (s_val rfl (v_move rfl) (s_val rfl (v_nilCheck rfl) ?_))
    refine s_val rfl (v_fieldAddr rfl Tryz.underlying217 rfl Tryz.sizeOf215 rfl (by first | exact Nat.zero_add _ | rfl)) ?_
    refine s_val rfl (v_load Tryz.isAgg215 rfl (cell_own rfl)) ?_
    refine s_val rfl (v_move rfl) (s_do0 (d_delete Tryz.underlying215 Tryz.underlying3 rfl rfl) ?_)
    rintro _ B_ ⟨rfl, hB_⟩
    obtain rfl := hB_.symm
    refine x_nil (n_then (x_ret (r_then (x_done (.inl rfl) .nil ?_))))
    exact ⟨_, ⟨rfl, rfl⟩, ent_dkS (x := x) (k := k) (b := bs) rfl rfl (by rw [dkF_set hx.sl hk, if_pos hz]) rfl⟩
  · intro c2
    refine x_skip (n_then ?_)
    have hz : ¬ bs = z16 := by rw [ints_eq] at c2; exact of_decide_eq_false (by simpa using c2)
    refine run_dk (d := d) fun bt bm aL cL => ?_
    refine x_draw [(d, 0, _), (bs_, 0, _)] 7 mixed rfl (sc_own (sc_own sc_end)) (fun hS => ?_)
    refine d_take 0 rfl rfl (by kernel_rfl) (by kernel_rfl) (by kernel_rfl) rfl hS (v_move rfl) ?_
    refine d_take 1 rfl rfl (by kernel_rfl) (by kernel_rfl) (by kernel_rfl) rfl hS (v_nilCheck rfl) ?_
    refine d_take 2 rfl rfl (by kernel_rfl) (by kernel_rfl) (by kernel_rfl) rfl hS (v_fieldAddr rfl Tryz.underlying217 rfl Tryz.sizeOf215 rfl (by first | exact Nat.zero_add _ | rfl)) ?_
    refine d_take 3 rfl rfl (by kernel_rfl) (by kernel_rfl) (by kernel_rfl) rfl hS (v_load Tryz.isAgg215 rfl (by first | exact cell_sc0 (k := 0) rfl rfl | exact cell_sc0 (k := 1) rfl rfl)) ?_
    refine d_take 4 rfl rfl (by kernel_rfl) (by kernel_rfl) (by kernel_rfl) rfl hS (v_move rfl) ?_
    refine d_take 5 rfl rfl (by kernel_rfl) (by kernel_rfl) (by kernel_rfl) rfl hS (v_loadAgg Tryz.isAgg311 Tryz.sizeOf311 rfl (by first | exact cells_sc (k := 0) rfl | exact cells_sc (k := 1) rfl) (by rw [byV_len]; exact hb.1)) ?_
    refine d_one 6 (by kernel_rfl) rfl rfl (d_mapUpdate Tryz.underlying215 Tryz.underlying3 rfl rfl rfl) rfl ?_; clear hS
    rintro _ _ rfl
    refine ⟨(sc_own (sc_own sc_end)), fun hS => ?_⟩
    refine d_done (by kernel_rfl) ?_; clear hS
    refine x_done (.inr rfl) .nil ?_
    exact ⟨_, ⟨rfl, rfl⟩, ent_dkS (x := x) (k := k) (b := bs) rfl rfl (by rw [dkF_set hx.sl hk, if_neg hz]) rfl⟩
theorem dkF_get {ss : List (List Nat)} {k : Nat} (hk : k < 32) {z : Value} (hz : z = .agg (byV z16).toArray) : (dkF ss (k : Int)).getD z = .agg (byV (secD ss k)).toArray := by
  unfold dkF
  rw [if_pos (by omega), Int.toNat_natCast]
  by_cases h : secD ss k = z16
  · rw [if_pos h, h]; exact hz
  · rw [if_neg h]; rfl
theorem dkCopied_spec (W0 : World) (R : List HP) (d : Nat) (x : Dk) (hx : DkOk x) (k : Nat) (hk : k < 32) :
    Spec Tryz.prog W0 150 [.pointer (some ⟨d, 0, none⟩), .int .i64 k] (dkH d x :: R) (fun v B => ∃ b, v = .slice (some ⟨b, 0, none⟩) 16 16 ∧ B = osl 5 1 (.slice (some ⟨b, 0, none⟩) 16 16) (byV (secD x.ss k)) :: dkH d x :: R) := by
  have hsec := hx.sec k
  refine spec_body Tryz.func150 Tryz.ntmps150 rfl rfl ?_
  refine x_seq (x_region (s_val rfl (v_assign rfl) (x_nil (n_then (x_seq ?_)))))
  refine run_dk (d := d) fun bt bm aL cL => ?_
  refine x_region (s_val rfl (v_move rfl) (s_val rfl (v_nilCheck rfl) ?_))
  refine s_val rfl (v_fieldAddr rfl Tryz.underlying217 rfl Tryz.sizeOf215 rfl (by first | exact Nat.zero_add _ | rfl)) ?_
  refine s_val rfl (v_load Tryz.isAgg215 rfl (cell_own rfl)) ?_
  refine s_val rfl (v_move rfl) (s_val rfl (v_lookupV (b := bm) (f := dkF x.ss) (k := (k : Int)) Tryz.underlying215 Tryz.underlying3 Tryz.zeroValue311 rfl rfl (dkF_get hk rfl)) ?_)
  refine s_do rfl (d_allocA Tryz.zeroValue311) ?_
  rintro _ _ ⟨b5, rfl, rfl⟩
  refine s_do0 (d_storeAll Tryz.sizeOf311 rfl rfl (by rw [byV_len]; exact hsec.1) (byV_one _) rfl) ?_
  rintro _ _ rfl
  refine x_nil (n_then (x_seq (x_region ?_)))
  refine s_do rfl (d_make (sz := 1) (by_ := 1) (info := Tryz.t5) Tryz.underlying44 (by kernel_rfl) rfl rfl rfl rfl (by decide) rfl rfl rfl rfl (by decide) (by decide)) ?_
  rintro _ _ ⟨bo, rfl, rfl⟩
  refine s_val rfl (v_assign rfl) (x_nil (n_then (x_seq (x_region (s_val rfl (v_move rfl) (s_val rfl (v_sliceArr Tryz.underlying311 Tryz.sizeOf5 rfl) ?_))))))
  refine s_do rfl (d_copy Tryz.underlying44 Tryz.sizeOf5 rfl rfl (m := 16) (vs := byV (secD x.ss k)) rfl (cells_all (b := b5)) (by rw [byV_len, hsec.1]) (byV_one _) (by decide) (by have := setR_all (byV (secD x.ss k)) (List.replicate (16 * 1) (.int .u8 0)) [] (by rw [byV_len, hsec.1]; rfl); simpa using this)) ?_
  rintro _ B_ ⟨rfl, hB_⟩
  obtain rfl := hB_.symm
  refine x_nil (n_then (x_seq (x_region (s_val rfl (v_move rfl) (s_val rfl (v_assign rfl) (x_nil (n_then (x_ret (x_done (.inl rfl) (.cons (r_tmp rfl) .nil) ?_)))))))))
  exact ⟨_, ⟨bo, rfl, rfl⟩, ent_osl0 (k := ent_dk rfl rfl rfl rfl) (by simp only [maxLen]; omega) (by rw [byV_len, hsec.1])⟩
theorem lbW_lt {x : Dk} {at_ : Int} {l : Int} (h : lbW x at_ = some l) : ∃ k : Nat, at_ = (k : Int) ∧ k < 32 := by
  unfold lbW whR at h
  split at h
  · cases h
  · exact ⟨at_.toNat, by omega, by omega⟩
def rdE (x : Dk) (who at_ : Int) : Int := match lbW x at_ with | none => 3 | some l => if flB l who then 0 else 8
theorem dkRead_spec (W0 : World) (R : List HP) (d : Nat) (x : Dk) (hx : DkOk x) (who at_ : Int) :
    Spec Tryz.prog W0 289 [.pointer (some ⟨d, 0, none⟩), .int .i64 who, .int .i64 at_] (dkH d x :: R) (fun v B => ∃ a n c, v = .tuple #[.slice a n c, .int .i64 (rdE x who at_)] ∧ n = (if rdE x who at_ = 0 then secD x.ss at_.toNat else []).length ∧ B = osl 5 1 (.slice a n c) (byV (if rdE x who at_ = 0 then secD x.ss at_.toNat else [])) :: dkH d x :: R) := by
  obtain ⟨o, ho⟩ : ∃ o, lbW x at_ = o := ⟨_, rfl⟩
  refine spec_body Tryz.func289 Tryz.ntmps289 rfl rfl ?_
  refine x_seq (x_region (s_val rfl (v_assign rfl) (s_val rfl (v_assign rfl) (x_nil (n_then (x_seq (x_region (s_val rfl (v_move rfl) (s_val rfl (v_move rfl) (s_do rfl (d_call1 Tryz.call138 rfl (dkLabel_spec W0 _ d x hx at_)) ?_))))))))))
  rintro _ B_ ⟨rfl, hB_⟩
  obtain rfl := hB_.symm
  rw [ho]
  refine s_val rfl (v_move rfl) (s_val rfl (v_extract rfl rfl) (s_val rfl (v_extract rfl rfl) (s_val rfl (v_assign rfl) (s_val rfl (v_assign rfl) (x_nil (n_then (x_seq (x_block (x_seq (x_region (s_val rfl (v_move rfl) (s_val rfl (v_neq rfl rfl) (s_val rfl (v_assign rfl) (x_nil (n_then ?_)))))))))))))))
  refine x_if rfl ?_ ?_
  · intro c2
    refine x_seq (x_region (s_val rfl (v_move rfl) (s_val rfl (v_assign rfl) (s_val rfl (v_assign rfl) (x_nil (n_then (x_ret (r_block (r_then (x_done (.inl rfl) (.cons (r_tmp rfl) (.cons (r_tmp rfl) .nil)) ?_))))))))))
    have hn : o = none := by
      cases o with
      | none => rfl
      | some l => exact absurd c2 (by simp)
    have he : rdE x who at_ = 3 := by rw [rdE, ho, hn]
    rw [he]
    subst hn
    exact ⟨_, ⟨none, 0, 0, rfl, rfl, rfl⟩, ent_osl_nil⟩
  · intro c2
    refine x_seq (x_region (s_val rfl (v_move rfl) (s_val rfl (v_move rfl) (s_do rfl (d_call Tryz.call56 rfl (lbFlows_spec W0 _ (o.getD 0) who)) ?_))))
    rintro _ B_ ⟨rfl, hB_⟩
    obtain rfl := hB_.symm
    refine s_val rfl (v_not rfl) (s_val rfl (v_assign rfl) (x_nil (n_then ?_)))
    refine x_if rfl ?_ ?_
    · intro c4
      refine x_seq (x_region (s_val rfl (v_assign rfl) (s_val rfl (v_assign rfl) (x_nil (n_then (x_ret (r_block (r_then (x_done (.inl rfl) (.cons (r_tmp rfl) (.cons (r_tmp rfl) .nil)) ?_)))))))))
      obtain ⟨l, rfl⟩ : ∃ l, o = some l := by
        cases o with
        | none => exact absurd (by simp) c2
        | some l => exact ⟨l, rfl⟩
      have he : rdE x who at_ = 8 := by rw [rdE, ho]; exact if_neg (by simpa using c4)
      rw [he]
      exact ⟨_, ⟨none, 0, 0, rfl, rfl, rfl⟩, ent_osl_nil⟩
    · intro c4
      refine x_skip (n_block (n_then (x_seq ?_)))
      obtain ⟨l, rfl⟩ : ∃ l, o = some l := by
        cases o with
        | none => exact absurd (by simp) c2
        | some l => exact ⟨l, rfl⟩
      obtain ⟨k, rfl, hk⟩ := lbW_lt ho
      have he : rdE x who k = 0 := by rw [rdE, ho]; exact if_pos (by simpa using c4)
      refine x_region (s_val rfl (v_move rfl) (s_val rfl (v_move rfl) (s_do rfl (d_call1 Tryz.call150 rfl (dkCopied_spec W0 _ d x hx k hk)) ?_)))
      rintro _ B_ ⟨bo, rfl, hB_⟩
      obtain rfl := hB_.symm
      refine s_val rfl (v_assign rfl) (s_val rfl (v_assign rfl) (x_nil (n_then (x_ret (x_done (.inl rfl) (.cons (r_tmp rfl) (.cons (r_tmp rfl) .nil)) ?_)))))
      rw [he, if_pos rfl, Int.toNat_natCast]
      exact ⟨_, ⟨some ⟨bo, 0, none⟩, 16, 16, rfl, (hx.sec k).1.symm, rfl⟩, inferInstance⟩
def wrDE (x : Dk) (who at_ : Int) (n : Nat) : Int := match lbW x at_ with | none => 3 | some l => if flB who l then (if n = 16 then 0 else 1) else 8
def wrDk (x : Dk) (who at_ : Int) (b : List Nat) : Dk := if wrDE x who at_ b.length = 0 then dkSet x at_.toNat b else x
theorem wrDk_ok {x : Dk} (h : DkOk x) (who at_ : Int) {b : List Nat} (hb : By b) : DkOk (wrDk x who at_ b) := by
  unfold wrDk; split
  · rename_i he
    refine dkSet_ok h ⟨?_, hb⟩
    unfold wrDE at he
    split at he
    · exact absurd he (by decide)
    · split at he
      · split at he
        · assumption
        · exact absurd he (by decide)
      · exact absurd he (by decide)
  · exact h
theorem dkWrite_spec (W0 : World) (R : List HP) (d : Nat) (x : Dk) (hx : DkOk x) (who at_ : Int) (a : Option Addr) (c : Nat) (bs : List Nat) (hb : By bs) (hn : bs.length < 9223372036854775808) (hs : SlA (OwnP W0 R) a 1 (fun x => [bV x]) bs) :
    Spec Tryz.prog W0 290 [.pointer (some ⟨d, 0, none⟩), .int .i64 who, .int .i64 at_, .slice a bs.length c] (dkH d x :: R) (fun v B => v = .int .i64 (wrDE x who at_ bs.length) ∧ B = dkH d (wrDk x who at_ bs) :: R) := by
  obtain ⟨o, ho⟩ : ∃ o, lbW x at_ = o := ⟨_, rfl⟩
  refine spec_body Tryz.func290 Tryz.ntmps290 rfl rfl ?_
  refine x_seq (x_region (s_val rfl (v_assign rfl) (x_nil (n_then (x_seq (x_region (s_val rfl (v_move rfl) (s_val rfl (v_move rfl) (s_do rfl (d_call1 Tryz.call138 rfl (dkLabel_spec W0 _ d x hx at_)) ?_)))))))))
  rintro _ B_ ⟨rfl, hB_⟩
  obtain rfl := hB_.symm
  rw [ho]
  refine s_val rfl (v_move rfl) (s_val rfl (v_extract rfl rfl) (s_val rfl (v_extract rfl rfl) (s_val rfl (v_assign rfl) (s_val rfl (v_assign rfl) (x_nil (n_then (x_seq (x_block (x_seq (x_region (s_val rfl (v_move rfl) (s_val rfl (v_neq rfl rfl) (s_val rfl (v_assign rfl) (x_nil (n_then ?_)))))))))))))))
  refine x_if rfl ?_ ?_
  · intro c2
    refine x_seq (x_region (s_val rfl (v_move rfl) (s_val rfl (v_assign rfl) (x_nil (n_then (x_ret (r_block (r_then (x_done (.inl rfl) (.cons (r_tmp rfl) .nil) ?_)))))))))
    have hn : o = none := by
      cases o with
      | none => rfl
      | some l => exact absurd c2 (by simp)
    subst hn
    have he : wrDE x who at_ bs.length = 3 := by rw [wrDE, ho]
    rw [wrDk, he, if_neg (show ¬ (3 : Int) = 0 by decide)]
    exact ⟨_, ⟨rfl, rfl⟩, inferInstance⟩
  · intro c2
    refine x_seq (x_region (s_val rfl (v_move rfl) (s_val rfl (v_move rfl) (s_do rfl (d_call Tryz.call56 rfl (lbFlows_spec W0 _ who (o.getD 0))) ?_))))
    rintro _ B_ ⟨rfl, hB_⟩
    obtain rfl := hB_.symm
    refine s_val rfl (v_not rfl) (s_val rfl (v_assign rfl) (x_nil (n_then ?_)))
    refine x_if rfl ?_ ?_
    · intro c4
      refine x_seq (x_region (s_val rfl (v_assign rfl) (x_nil (n_then (x_ret (r_block (r_then (x_done (.inl rfl) (.cons (r_tmp rfl) .nil) ?_))))))))
      obtain ⟨l, rfl⟩ : ∃ l, o = some l := by
        cases o with
        | none => exact absurd (by simp) c2
        | some l => exact ⟨l, rfl⟩
      have he : wrDE x who at_ bs.length = 8 := by rw [wrDE, ho]; exact if_neg (by simpa using c4)
      rw [wrDk, he, if_neg (show ¬ (8 : Int) = 0 by decide)]
      exact ⟨_, ⟨rfl, rfl⟩, inferInstance⟩
    · intro c4
      refine x_seq ?_
      obtain ⟨l, rfl⟩ : ∃ l, o = some l := by
        cases o with
        | none => exact absurd (by simp) c2
        | some l => exact ⟨l, rfl⟩
      refine x_region (s_val rfl (v_move rfl) (s_val rfl (v_len_slice Tryz.underlying44 rfl) (s_val rfl (v_neq rfl rfl) (s_val rfl (v_assign rfl) (x_nil (n_then ?_))))))
      refine x_if rfl ?_ ?_
      · intro c6
        refine x_seq (x_region (s_val rfl (v_assign rfl) (x_nil (n_then (x_ret (r_block (r_then (x_done (.inl rfl) (.cons (r_tmp rfl) .nil) ?_))))))))
        have h16 : ¬ bs.length = 16 := by omega
        have he : wrDE x who at_ bs.length = 1 := by rw [wrDE, ho]; exact (if_pos (by simpa using c4)).trans (if_neg h16)
        rw [wrDk, he, if_neg (show ¬ (1 : Int) = 0 by decide)]
        exact ⟨_, ⟨rfl, rfl⟩, inferInstance⟩
      · intro c6
        refine x_skip (n_block (n_then (x_seq ?_)))
        have h16 : bs.length = 16 := by omega
        obtain ⟨k, rfl, hk⟩ := lbW_lt ho
        have he : wrDE x who k bs.length = 0 := by rw [wrDE, ho]; exact (if_pos (by simpa using c4)).trans (if_pos h16)
        obtain ⟨bb, off, rfl, hc⟩ := sla_whole hs (by omega)
        refine x_region (s_val rfl (v_move rfl) (s_val rfl (v_move rfl) (s_val rfl (v_move rfl) (s_do rfl (d_call1 Tryz.call139 rfl (h16 ▸ dkPut_spec W0 _ d x hx k hk bb off c bs ⟨h16, hb⟩ hc.weak)) ?_))))
        rintro _ B_ ⟨rfl, hB_⟩
        obtain rfl := hB_.symm
        refine x_nil (n_then (x_seq (x_region (s_val rfl (v_assign rfl) (x_nil (n_then (x_ret (x_done (.inl rfl) (.cons (r_tmp rfl) .nil) ?_))))))))
        rw [wrDk, he, if_pos rfl, Int.toNat_natCast]
        exact ⟨_, ⟨rfl, rfl⟩, inferInstance⟩
def ftB (s : ByteArray) (n : Nat) : List Nat := ((s.data.toList.take n).map fun b => b.toNat) ++ List.replicate (n - s.size) 0
theorem ftB_ok (s : ByteArray) (n : Nat) : (ftB s n).length = n ∧ By (ftB s n) := by
  have e : s.data.toList.length = s.size := by rw [Array.length_toList]; rfl
  refine ⟨by rw [ftB, List.length_append, List.length_map, List.length_take, List.length_replicate, e]; omega, fun x hx => ?_⟩
  rw [ftB] at hx
  rcases List.mem_append.1 hx with q | q
  · obtain ⟨b, _, rfl⟩ := List.mem_map.1 q; exact b.toNat_lt
  · have := List.eq_of_mem_replicate q; omega
theorem octFit_spec (W0 : World) (R : List HP) (s : ByteArray) (n : Nat) (hn : 1 ≤ n ∧ n ≤ 16384) :
    Spec Tryz.prog W0 140 [.string s, .int .i64 n] R (fun v B => ∃ b, v = .slice (some ⟨b, 0, none⟩) n n ∧ B = pt b (cob (byV (ftB s n)) 5) :: R) := by
  have e : s.data.toList.length = s.size := by rw [Array.length_toList]; rfl
  refine spec_body Tryz.func140 Tryz.ntmps140 rfl rfl ?_
  refine x_seq (x_region (s_val rfl (v_assign rfl) (x_nil (n_then (x_seq (x_region (s_val rfl (v_move rfl) ?_)))))))
  refine s_val rfl (v_min rfl rfl (r := (n : Int)) (by rw [if_neg (by omega)])) ?_
  refine s_val rfl (v_max rfl rfl (r := (n : Int)) (by rw [if_pos (by omega)])) ?_
  refine s_do rfl (d_make (sz := 1) (by_ := 1) (info := Tryz.t5) Tryz.underlying44 (by kernel_rfl) rfl rfl rfl rfl (by decide) rfl rfl (n := n) rfl rfl (by omega) (by decide)) ?_
  rintro _ _ ⟨bo, rfl, rfl⟩
  refine s_val rfl (v_assign rfl) (x_nil (n_then (x_seq (x_region (s_val rfl (v_move rfl) (s_val rfl (v_move rfl) ?_))))))
  refine s_do rfl (d_copyStr (b := bo) (m := min s.size n) Tryz.underlying44 Tryz.sizeOf5 rfl rfl rfl (by rw [List.length_replicate]; have := Nat.min_le_right s.size n; omega) (l' := byV (ftB s n)) (by
  rw [setR_eq _ _ _ (by rw [List.length_map, List.length_take, List.length_replicate]; have := Nat.min_le_right s.size n; omega), ftB, byV_append, List.take_zero, List.nil_append, List.drop_replicate, List.length_map, List.length_take, e, Nat.zero_add]
  congr 1
  · rw [byV, List.map_map]
    have : s.data.toList.take (min s.size n) = s.data.toList.take n := by
      rcases Nat.le_total s.size n with q | q
      · rw [Nat.min_eq_left q, List.take_of_length_le (by omega), List.take_of_length_le (by omega)]
      · rw [Nat.min_eq_right q]
    rw [this]; rfl
  · rw [byV, List.map_replicate]
    congr 1
    rcases Nat.le_total s.size n with q | q
    · rw [Nat.min_eq_left q]; omega
    · rw [Nat.min_eq_right q]; omega)) ?_
  rintro _ B_ ⟨rfl, hB_⟩
  obtain rfl := hB_.symm
  refine x_nil (n_then (x_seq (x_region (s_val rfl (v_move rfl) (s_val rfl (v_assign rfl) (x_nil (n_then (x_ret (x_done (.inl rfl) (.cons (r_tmp rfl) .nil) ?_)))))))))
  exact ⟨_, ⟨bo, rfl, rfl⟩, inferInstance⟩
def flD (x : Dk) (at_ : Int) (s : ByteArray) : Dk := if (lbW x at_).isSome then dkSet x at_.toNat (ftB s 16) else x
theorem flD_ok {x : Dk} (h : DkOk x) (at_ : Int) (s : ByteArray) : DkOk (flD x at_ s) := by
  unfold flD; split
  · exact dkSet_ok h (ftB_ok s 16)
  · exact h
theorem dkFill_spec (W0 : World) (R : List HP) (d : Nat) (x : Dk) (hx : DkOk x) (at_ : Int) (s : ByteArray) :
    Spec Tryz.prog W0 50 [.pointer (some ⟨d, 0, none⟩), .int .i64 at_, .string s] (dkH d x :: R) (fun v B => v = .int .i64 (if (lbW x at_).isSome then 0 else 3) ∧ B = dkH d (flD x at_ s) :: R) := by
  obtain ⟨o, ho⟩ : ∃ o, lbW x at_ = o := ⟨_, rfl⟩
  refine spec_body Tryz.func50 Tryz.ntmps50 rfl rfl ?_
  refine x_seq (x_region (s_val rfl (v_assign rfl) (x_nil (n_then (x_seq (x_seq (x_region (s_val rfl (v_move rfl) (s_val rfl (v_move rfl) (s_do rfl (d_call1 Tryz.call138 rfl (dkLabel_spec W0 _ d x hx at_)) ?_))))))))))
  rintro _ B_ ⟨rfl, hB_⟩
  obtain rfl := hB_.symm
  rw [ho]
  refine s_val rfl (v_move rfl) (s_val rfl (v_extract rfl rfl) (s_val rfl (v_extract rfl rfl) (s_val rfl (v_assign rfl) (s_val rfl (v_assign rfl) (x_nil (n_then (x_seq (x_region (s_val rfl (v_move rfl) (s_val rfl (v_neq rfl rfl) (x_nil (n_then ?_))))))))))))
  refine x_if rfl ?_ ?_
  · intro c2
    refine x_seq (x_region (s_val rfl (v_move rfl) (s_val rfl (v_assign rfl) (x_nil (n_then (x_ret (r_then (x_done (.inl rfl) (.cons (r_tmp rfl) .nil) ?_))))))))
    have hn : o = none := by
      cases o with
      | none => rfl
      | some l => exact absurd c2 (by simp)
    subst hn
    rw [flD, ho]
    simp only [Option.isSome_none, Bool.false_eq_true, if_false]
    exact ⟨_, ⟨rfl, rfl⟩, inferInstance⟩
  · intro c2
    refine x_skip (n_then (x_seq ?_))
    obtain ⟨l, rfl⟩ : ∃ l, o = some l := by
      cases o with
      | none => exact absurd (by simp) c2
      | some l => exact ⟨l, rfl⟩
    obtain ⟨k, rfl, hk⟩ := lbW_lt ho
    refine x_region (s_val rfl (v_move rfl) (s_val rfl (v_move rfl) (s_val rfl (v_move rfl) ?_)))
    refine s_do rfl (d_call Tryz.call140 rfl (octFit_spec W0 _ s 16 (by omega))) ?_
    rintro _ B_ ⟨bo, rfl, hB_⟩
    obtain rfl := hB_.symm
    refine s_do rfl (d_call1 Tryz.call139 rfl (dkPut_spec W0 _ d x hx k hk bo 0 16 (ftB s 16) (ftB_ok s 16) (cells_all (b := bo)))) ?_
    rintro _ B_ ⟨rfl, hB_⟩
    obtain rfl := hB_.symm
    refine x_nil (n_then (x_seq (x_region (s_val rfl (v_assign rfl) (x_nil (n_then (x_ret (x_done (.inl rfl) (.cons (r_tmp rfl) .nil) ?_))))))))
    rw [flD, ho]
    simp only [Option.isSome_some, if_true, Int.toNat_natCast]
    exact ⟨_, ⟨rfl, rfl⟩, inferInstance⟩
end Go.Proofs.YtlnmofhehcilhaaGreat
namespace Go.Proofs.YtlnmofhehcilhaaGreat
open Go.RowKit
set_option linter.unusedSimpArgs false
set_option linter.unusedVariables false
set_option maxRecDepth 20000
def rdG (x : Dk) (who at_ : Int) : Nat → Option (List Nat)
  | 0 => some []
  | k + 1 => (rdG x who at_ k).bind fun l => if rdE x who (at_ + k) = 0 then some (l ++ secD x.ss (at_ + k).toNat) else none
theorem rdG_stop {x : Dk} {who at_ : Int} {i : Nat} (h : rdG x who at_ i = none) : ∀ {k : Nat}, i ≤ k → rdG x who at_ k = none := by
  intro k hk
  induction k with
  | zero => rwa [show i = 0 by omega] at h
  | succ k ih =>
    rcases Nat.lt_or_ge i (k + 1) with q | q
    · rw [rdG, ih (by omega)]; rfl
    · rwa [show i = k + 1 by omega] at h
theorem rdG_ok {x : Dk} (hx : DkOk x) {who at_ : Int} : ∀ {k : Nat} {l : List Nat}, rdG x who at_ k = some l → l.length = 16 * k ∧ By l
  | 0, l, h => by cases h; exact ⟨rfl, fun x hx => by simp at hx⟩
  | k + 1, l, h => by
    rw [rdG] at h
    cases e : rdG x who at_ k with
    | none => rw [e] at h; cases h
    | some l0 =>
      rw [e] at h
      obtain ⟨h1, h2⟩ := rdG_ok hx e
      have h' : (if rdE x who (at_ + k) = 0 then some (l0 ++ secD x.ss (at_ + k).toNat) else none) = some l := h
      split at h'
      · cases h'
        obtain ⟨s1, s2⟩ := hx.sec (at_ + k).toNat
        exact ⟨by rw [List.length_append, s1, h1]; omega, h2.append s2⟩
      · cases h'
theorem rdE_lt {x : Dk} {who at_ : Int} (h : rdE x who at_ = 0) : 0 ≤ at_ ∧ at_ < 32 := by
  unfold rdE at h
  split at h
  · exact absurd h (by decide)
  · rename_i l e
    obtain ⟨k, rfl, hk⟩ := lbW_lt e
    omega
def wrG (x : Dk) (who at_ : Int) (D : List Nat) : Nat → Dk × Option Nat
  | 0 => (x, none)
  | k + 1 => match wrG x who at_ D k with
    | (y, some f) => (y, some f)
    | (y, none) => if wrDE y who (at_ + k) ((D.drop (16 * k)).take 16).length = 0 then (wrDk y who (at_ + k) ((D.drop (16 * k)).take 16), none) else (y, some (16 * k))
theorem wrG_stop {x y : Dk} {who at_ : Int} {D : List Nat} {i f : Nat} (h : wrG x who at_ D i = (y, some f)) : ∀ {k : Nat}, i ≤ k → wrG x who at_ D k = (y, some f) := by
  intro k hk
  induction k with
  | zero => rwa [show i = 0 by omega] at h
  | succ k ih =>
    rcases Nat.lt_or_ge i (k + 1) with q | q
    · rw [wrG, ih (by omega)]
    · rwa [show i = k + 1 by omega] at h
theorem wrG_ok {x : Dk} (hx : DkOk x) (who at_ : Int) {D : List Nat} (hD : By D) : ∀ k, DkOk (wrG x who at_ D k).1 ∧ ∀ f, (wrG x who at_ D k).2 = some f → f < 16 * k ∧ 16 ∣ f
  | 0 => ⟨hx, fun f hf => by cases hf⟩
  | k + 1 => by
    obtain ⟨h1, h2⟩ := wrG_ok hx who at_ hD k
    rw [wrG]
    cases e : wrG x who at_ D k with
    | mk y o =>
      rw [e] at h1 h2
      cases o with
      | some f => exact ⟨h1, fun g hg => by obtain ⟨a, b⟩ := h2 g hg; exact ⟨by omega, b⟩⟩
      | none =>
        dsimp only
        split
        · exact ⟨wrDk_ok h1 _ _ ((hD.drop _).take _), fun g hg => by cases hg⟩
        · exact ⟨h1, fun g hg => by cases hg; exact ⟨by omega, ⟨k, rfl⟩⟩⟩
structure BlR where
  how : Nat
  m : Nat
  t : Nat
  fr : List Frm
  d : Nat
  x : Dk
def bkRd (pg : List Pl) (who at_ : Int) (room : Nat) (l : List Dsc) (x : Dk) (fr : List Frm) (d : Nat) : BlR :=
  if (room - 1) % 16 = 0 then (match rdG x who at_ ((room - 1) / 16) with
    | none => ⟨1, 0, 0, fr, d, x⟩
    | some all => ⟨0, (scK fr pg d l 0 all l.length).2.1, (scK fr pg d l 0 all l.length).2.1, (scK fr pg d l 0 all l.length).2.2.1, (scK fr pg d l 0 all l.length).2.2.2, x⟩)
  else ⟨1, 0, 0, fr, d, x⟩
def bkWr (who at_ : Int) (D : List Nat) (x : Dk) (fr : List Frm) (d : Nat) : BlR :=
  if D.length % 16 = 0 then (match wrG x who at_ D (D.length / 16) with
    | (y, some f) => ⟨1, f, 0, fr, d, y⟩
    | (y, none) => ⟨0, D.length, 0, fr, d, y⟩)
  else ⟨1, 0, 0, fr, d, x⟩
def bkDo (pg : List Pl) (who at_ : Int) (what room : Nat) (l : List Dsc) (D : List Nat) (x : Dk) (fr : List Frm) (d : Nat) : BlR :=
  if what = 0 then bkRd pg who at_ room l x fr d else if what = 1 then bkWr who at_ D x fr d else ⟨2, 0, 0, fr, d, x⟩
structure BlOk (fr : List Frm) (r : BlR) : Prop where
  frs : Frs r.fr
  len : r.fr.length = fr.length
  d : r.d < 4096
  x : DkOk r.x
  how : r.how ≤ 2
  m : r.m ≤ 512
  t : r.t ≤ 512
theorem rdG_len {x : Dk} (hx : DkOk x) {who at_ : Int} {k : Nat} {l : List Nat} (h : rdG x who at_ k = some l) : l.length ≤ 512 := by
  have h1 := (rdG_ok hx h).1
  rcases Nat.eq_zero_or_pos k with q | q
  · subst q; omega
  · obtain ⟨j, rfl⟩ : ∃ j, k = j + 1 := ⟨k - 1, by omega⟩
    have g0 : rdE x who at_ = 0 := by
      by_cases q0 : rdE x who at_ = 0
      · exact q0
      · exfalso
        have : rdG x who at_ 1 = none := by
          show (if rdE x who (at_ + ((0 : Nat) : Int)) = 0 then some ([] ++ secD x.ss (at_ + ((0 : Nat) : Int)).toNat) else none) = none
          rw [show at_ + ((0 : Nat) : Int) = at_ by omega, if_neg q0]
        rw [rdG_stop this (by omega)] at h; cases h
    have gj : rdE x who (at_ + j) = 0 := by
      rw [rdG] at h
      cases e : rdG x who at_ j with
      | none => rw [e] at h; cases h
      | some l0 =>
        rw [e] at h
        have h' : (if rdE x who (at_ + j) = 0 then some (l0 ++ secD x.ss (at_ + j).toNat) else none) = some l := h
        split at h'
        · assumption
        · cases h'
    have a := rdE_lt g0
    have b := rdE_lt gj
    omega
theorem bkDo_ok {pg : List Pl} {who at_ : Int} {what room : Nat} {l : List Dsc} {D : List Nat} {x : Dk} {fr : List Frm} {d : Nat} (hx : DkOk x) (hF : Frs fr) (hd : d < 4096) (hD : By D) (hn : D.length ≤ 512) : BlOk fr (bkDo pg who at_ what room l D x fr d) := by
  unfold bkDo; split
  · unfold bkRd; split
    · split
      · exact ⟨hF, rfl, hd, hx, by simp, by simp, by simp⟩
      · rename_i all e
        have h := scK_ok (pg := pg) (l := l) (from_ := 0) (bs := all) hF hd l.length
        have h1 := h.dn
        have h2 := rdG_len hx e
        exact ⟨h.frs, h.len, h.d, hx, by simp, by simp only; omega, by simp only; omega⟩
    · exact ⟨hF, rfl, hd, hx, by simp, by simp, by simp⟩
  · split
    · unfold bkWr; split
      · obtain ⟨h1, h2⟩ := wrG_ok hx who at_ hD (D.length / 16)
        split
        · rename_i y f e
          rw [e] at h1 h2
          have := (h2 f rfl).1
          exact ⟨hF, rfl, hd, h1, by simp, by simp only; omega, by simp⟩
        · rename_i y e
          rw [e] at h1
          exact ⟨hF, rfl, hd, h1, by simp, hn, by simp⟩
      · exact ⟨hF, rfl, hd, hx, by simp, by simp, by simp⟩
    · exact ⟨hF, rfl, hd, hx, by simp, by simp, by simp⟩
theorem bkWhole_spec (W0 : World) (R : List HP) (n : Nat) : Spec Tryz.prog W0 288 [.int .i64 n] R (fun v B => v = .bool (decide (n % 16 = 0)) ∧ B = R) := by
  refine spec_body Tryz.func288 Tryz.ntmps288 rfl rfl ?_
  refine x_seq (x_region (s_val rfl (v_assign rfl) (x_nil (n_then (x_seq (x_region (s_val rfl (v_move rfl) ?_)))))))
  refine s_val rfl (v_rem rfl rfl (by decide) (tmodN n 16)) ?_
  refine s_val rfl (v_eql rfl rfl) (s_val rfl (v_assign rfl) (x_nil (n_then (x_ret (x_done (.inl rfl) (.cons (r_tmp rfl) .nil) ?_)))))
  refine ⟨_, ⟨?_, rfl⟩, inferInstance⟩
  refine congrArg Value.bool ?_
  rw [Bool.eq_iff_iff, beq_iff_eq, decide_eq_true_iff]; omega
@[reducible] def blqO (pv d : Nat) (aL : Option Addr) (nL cL : Nat) (who : Int) (what : Nat) (at_ : Nat) (aD : Option Addr) (nD cD room : Nat) : Obj := cob [.pointer (some ⟨pv, 0, none⟩), .pointer (some ⟨d, 0, none⟩), .slice aL nL cL, .int .i64 who, .int .u32 what, .int .i64 at_, .slice aD nD cD, .int .i64 room] 353
abbrev ouV (a b c : Nat) : List Value := [.int .i64 a, .int .i64 b, .int .i64 c]
theorem bkRead_spec (W0 : World) (R : List HP) (rq pv dd ps pm d c cD nD room : Nat) (a aD : Option Addr) (fr : List Frm) (pg : List Pl) (h : Pgs pg) (hF : Frs fr) (hd : d < 4096) (l : List Dsc) (hl : ∀ y ∈ l, y.ok) (hn : l.length ≤ 9) (x : Dk) (hx : DkOk x) (who : Int) (at_ : Nat) (hat : at_ < 4294967296) (hr : 1 ≤ room ∧ room ≤ 38654705664) :
    Spec Tryz.prog W0 264 [.pointer (some ⟨rq, 0, none⟩)] (pt rq (blqO pv dd a l.length c who 0 at_ aD nD cD room) :: osl 99 4 (.slice a l.length c) (l.flatMap dsV) :: dkH dd x :: vwW pv ps pm d fr pg R)
      (fun v B => v = .agg (ouV (bkRd pg who at_ room l x fr d).how (bkRd pg who at_ room l x fr d).m (bkRd pg who at_ room l x fr d).t).toArray ∧ B = pt rq (blqO pv dd a l.length c who 0 at_ aD nD cD room) :: osl 99 4 (.slice a l.length c) (l.flatMap dsV) :: dkH dd (bkRd pg who at_ room l x fr d).x :: vwW pv ps pm (bkRd pg who at_ room l x fr d).d (bkRd pg who at_ room l x fr d).fr pg R) := by
  refine spec_body Tryz.func264 Tryz.ntmps264 rfl rfl ?_
  refine x_seq (x_region (s_do rfl (d_allocA Tryz.zeroValue302) ?_))
  rintro _ _ ⟨bo, rfl, rfl⟩
  refine x_nil (n_then (x_seq (x_region (s_val rfl (v_move rfl) (s_val rfl (v_nilCheck rfl) ?_)))))
  refine s_val rfl (v_fieldAddr rfl Tryz.underlying353 rfl Tryz.sizeOf3 rfl (by first | exact Nat.zero_add _ | rfl)) ?_
  refine s_val rfl (v_load Tryz.isAgg3 rfl (cell_own rfl)) ?_
  refine s_val rfl (v_sub rfl rfl (by rw [w64 (by omega)]; omega : IntKind.wrap .i64 ((room : Int) - 1) = ((room - 1 : Nat) : Int))) ?_
  refine s_val rfl (v_assign rfl) (x_nil (n_then (x_seq (x_seq (x_region (s_val rfl (v_move rfl) (s_do rfl (d_call Tryz.call288 rfl (bkWhole_spec W0 _ (room - 1))) ?_)))))))
  rintro _ B_ ⟨rfl, hB_⟩
  obtain rfl := hB_.symm
  refine s_val rfl (v_not rfl) (x_nil (n_then ?_))
  refine x_if rfl ?_ ?_
  · intro c2
    refine x_seq (x_region (s_val rfl (v_build Tryz.underlying302 Tryz.zeroValue302 (sized_cons Tryz.sizeOf3 (sized_cons Tryz.sizeOf3 (sized_cons Tryz.sizeOf3 sized_nil))) (fil_scal rfl Tryz.sizeOf3 rfl rfl (Nat.le_of_ble_eq_true rfl) SetL.eq fil_nil)) ?_))
    refine s_do0 (d_storeAll Tryz.sizeOf302 rfl rfl rfl rfl rfl) ?_
    rintro _ _ rfl
    refine x_nil (n_then (x_ret (r_then (x_done (.inl rfl) (.cons (r_all Tryz.isAgg302 Tryz.sizeOf302 rfl rfl) .nil) ?_))))
    have hw : ¬ (room - 1) % 16 = 0 := by simpa using c2
    have hB : bkRd pg who at_ room l x fr d = ⟨1, 0, 0, fr, d, x⟩ := by rw [bkRd, if_neg hw]
    rw [hB]
    exact ⟨_, ⟨rfl, rfl⟩, inferInstance⟩
  · intro c2
    refine x_skip (n_then (x_seq ?_))
    have hw : (room - 1) % 16 = 0 := by simpa using c2
    refine x_region (s_val rfl (v_assign rfl) (x_nil (n_then (x_seq (x_seq (x_region (s_val rfl (v_move rfl) ?_)))))))
    refine s_val rfl (v_quo rfl rfl (by decide) ((congrArg (IntKind.wrap .i64) (tdivN (room - 1) 16)).trans (w64 (by omega)))) ?_
    refine s_val rfl (v_move rfl) (x_nil (n_then (x_block ?_)))
    refine x_loop (fun X : Nat × Option Addr × Nat × List Nat => X.1 ≤ (room - 1) / 16 ∧ rdG x who at_ X.1 = some X.2.2.2 ∧ X.2.2.2.length ≤ 512) (fun X => [(0, .pointer (some ⟨rq, 0, none⟩)), (2, .pointer (some ⟨bo, 0, none⟩)), (4, .slice X.2.1 X.2.2.2.length X.2.2.1), (19, .int .i64 ((room - 1) / 16 : Nat)), (20, .int .i64 X.1)]) (fun X => osl 5 1 (.slice X.2.1 X.2.2.2.length X.2.2.1) (byV X.2.2.2) :: pt bo (cob (ouV 0 0 0) 302) :: pt rq (blqO pv dd a l.length c who 0 at_ aD nD cD room) :: osl 99 4 (.slice a l.length c) (l.flatMap dsV) :: dkH dd x :: vwW pv ps pm d fr pg R) (fun X => (room - 1) / 16 - X.1) (0, none, 0, []) ?_ ?_ ?_ ?_
    · exact ⟨Nat.zero_le _, rfl, Nat.zero_le _⟩
    · repeat (first | exact sub_nil | refine sub_cons rfl ?_)
    · exact ent_osl_nil
    · intro ⟨i, a0, c0, all⟩ ⟨hi, hall, hlen⟩
      dsimp only at hi hall hlen ⊢
      obtain ⟨hl16, hby⟩ := rdG_ok hx hall
      refine x_seq (x_region (s_val rfl (v_lss rfl rfl) (x_nil (n_then (x_seq ?_)))))
      refine x_if rfl ?_ ?_
      · intro c6
        refine x_skip (n_then (x_seq (x_block (x_seq (x_region (s_val rfl (v_move rfl) (s_val rfl (v_assign rfl) (x_nil (n_then (x_seq ?_))))))))))
        refine x_draw [(rq, 0, _)] 20 mixed rfl (sc_own sc_end) (fun hS => ?_)
        refine d_take 0 rfl rfl (by kernel_rfl) (by kernel_rfl) (by kernel_rfl) rfl hS (v_move rfl) ?_
        refine d_take 1 rfl rfl (by kernel_rfl) (by kernel_rfl) (by kernel_rfl) rfl hS (v_nilCheck rfl) ?_
        refine d_take 2 rfl rfl (by kernel_rfl) (by kernel_rfl) (by kernel_rfl) rfl hS (v_fieldAddr rfl Tryz.underlying353 rfl Tryz.sizeOf93 rfl (by first | exact Nat.zero_add _ | rfl)) ?_
        refine d_take 3 rfl rfl (by kernel_rfl) (by kernel_rfl) (by kernel_rfl) rfl hS (v_load Tryz.isAgg93 rfl (cell_sc0 (k := 0) rfl rfl)) ?_
        refine d_take 4 rfl rfl (by kernel_rfl) (by kernel_rfl) (by kernel_rfl) rfl hS (v_move rfl) ?_
        refine d_take 5 rfl rfl (by kernel_rfl) (by kernel_rfl) (by kernel_rfl) rfl hS (v_nilCheck rfl) ?_
        refine d_take 6 rfl rfl (by kernel_rfl) (by kernel_rfl) (by kernel_rfl) rfl hS (v_fieldAddr rfl Tryz.underlying353 rfl Tryz.sizeOf3 rfl (by first | exact Nat.zero_add _ | rfl)) ?_
        refine d_take 7 rfl rfl (by kernel_rfl) (by kernel_rfl) (by kernel_rfl) rfl hS (v_load Tryz.isAgg3 rfl (cell_sc0 (k := 0) rfl rfl)) ?_
        refine d_take 8 rfl rfl (by kernel_rfl) (by kernel_rfl) (by kernel_rfl) rfl hS (v_move rfl) ?_
        refine d_take 9 rfl rfl (by kernel_rfl) (by kernel_rfl) (by kernel_rfl) rfl hS (v_nilCheck rfl) ?_
        refine d_take 10 rfl rfl (by kernel_rfl) (by kernel_rfl) (by kernel_rfl) rfl hS (v_fieldAddr rfl Tryz.underlying353 rfl Tryz.sizeOf3 rfl (by first | exact Nat.zero_add _ | rfl)) ?_
        refine d_take 11 rfl rfl (by kernel_rfl) (by kernel_rfl) (by kernel_rfl) rfl hS (v_load Tryz.isAgg3 rfl (cell_sc0 (k := 0) rfl rfl)) ?_
        refine d_take 12 rfl rfl (by kernel_rfl) (by kernel_rfl) (by kernel_rfl) rfl hS (v_move rfl) ?_
        refine d_take 13 rfl rfl (by kernel_rfl) (by kernel_rfl) (by kernel_rfl) rfl hS (v_add rfl rfl (w64 (by omega))) ?_
        refine d_one 14 (by kernel_rfl) rfl rfl (d_call1 Tryz.call289 rfl (dkRead_spec W0 _ dd x hx who ((at_ : Int) + (i : Int)))) rfl ?_; clear hS
        rintro _ B_ ⟨a2, n2, c2', rfl, hn2, hB_⟩
        obtain rfl := hB_.symm
        subst hn2
        refine ⟨(sc_own sc_end), fun hS => ?_⟩
        refine d_take 15 rfl rfl (by kernel_rfl) (by kernel_rfl) (by kernel_rfl) rfl hS (v_move rfl) ?_
        refine d_take 16 rfl rfl (by kernel_rfl) (by kernel_rfl) (by kernel_rfl) rfl hS (v_extract rfl rfl) ?_
        refine d_take 17 rfl rfl (by kernel_rfl) (by kernel_rfl) (by kernel_rfl) rfl hS (v_extract rfl rfl) ?_
        refine d_take 18 rfl rfl (by kernel_rfl) (by kernel_rfl) (by kernel_rfl) rfl hS (v_assign rfl) ?_
        refine d_take 19 rfl rfl (by kernel_rfl) (by kernel_rfl) (by kernel_rfl) rfl hS (v_assign rfl) ?_
        refine d_done (by kernel_rfl) ?_; clear hS
        refine n_then (x_seq (x_seq (x_region (s_val rfl (v_move rfl) (s_val rfl (v_neq rfl rfl) (x_nil (n_then ?_)))))))
        refine x_if rfl ?_ ?_
        · intro c9
          refine x_seq (x_region (s_val rfl (v_build Tryz.underlying302 Tryz.zeroValue302 (sized_cons Tryz.sizeOf3 (sized_cons Tryz.sizeOf3 (sized_cons Tryz.sizeOf3 sized_nil))) (fil_scal rfl Tryz.sizeOf3 rfl rfl (Nat.le_of_ble_eq_true rfl) SetL.eq fil_nil)) ?_))
          refine s_do0 (d_storeAll Tryz.sizeOf302 rfl rfl rfl rfl rfl) ?_
          rintro _ _ rfl
          refine x_nil (n_then (x_ret (r_then (r_block (r_then (r_then (r_block (r_then (x_done (.inl rfl) (.cons (r_all Tryz.isAgg302 Tryz.sizeOf302 rfl rfl) .nil) ?_)))))))))
          have hq : ¬ rdE x who (at_ + i) = 0 := by first | exact c9 | simpa using c9
          have hs : rdG x who at_ (i + 1) = none := by
            rw [rdG, hall]; exact if_neg hq
          have hB : bkRd pg who at_ room l x fr d = ⟨1, 0, 0, fr, d, x⟩ := by rw [bkRd, if_pos hw, rdG_stop hs (by omega)]
          rw [hB]
          exact ⟨_, ⟨rfl, rfl⟩, inferInstance⟩
        · intro c9
          refine x_skip (n_then ?_)
          have hq : rdE x who (at_ + i) = 0 := by first | exact Decidable.not_not.1 c9 | simpa using c9
          have hlt := rdE_lt hq
          have hs : rdG x who at_ (i + 1) = some (all ++ secD x.ss ((at_ : Int) + (i : Int)).toNat) := by
            rw [rdG, hall]; exact if_pos hq
          have hsl := rdG_len hx hs
          rw [List.length_append] at hsl
          obtain ⟨s1, s2⟩ := hx.sec ((at_ : Int) + (i : Int)).toNat
          rw [hq]
          simp only [if_true]
          refine run_where (E := 5) (sz := 1) (vi := .slice a2 (secD x.ss ((at_ : Int) + (i : Int)).toNat).length c2') (ys := byV (secD x.ss ((at_ : Int) + (i : Int)).toNat)) (byV_ne (by omega)) (fun g n3 c3 e3 _ => ?_)
          cases e3
          refine x_region (s_val rfl (v_move rfl) (s_val rfl (v_move rfl) ?_))
          refine s_do rfl (d_append (sz := 1) (by_ := 1) (info := Tryz.t5) Tryz.underlying44 (by kernel_rfl) rfl rfl rfl rfl (by decide) rfl rfl (cells_osl (E := 5) (sz := 1) (a := some ⟨g, 0, none⟩) (c := c2') (n := (secD x.ss ((at_ : Int) + (i : Int)).toNat).length)) (by rw [byV_len, Nat.mul_one]) (byV_one _) (by simp only [maxLen]; omega) (by omega)) ?_
          rintro _ _ ⟨a4, c4', rfl, rfl⟩
          rw [← byV_append, ← List.length_append]
          refine s_val rfl (v_assign rfl) (x_nil (n_block (n_then (x_region ?_))))
          refine s_val rfl (v_add rfl rfl (by first | exact w64 (by omega) | rfl)) ?_
          refine s_val rfl (v_move rfl) (x_nil (n_then ?_))
          refine inv_intro (i + 1, a4, c4', all ++ secD x.ss ((at_ : Int) + (i : Int)).toNat) ?_ ?_ ?_ ?_
          · exact ⟨by omega, hs, by rw [List.length_append]; exact hsl⟩
          · omega
          · repeat (first | exact sub_nil | refine sub_cons rfl ?_)
          · exact inferInstance
      · intro c6
        refine x_exit (e_then (e_then (e_block (n_then (x_seq ?_)))))
        obtain rfl : i = (room - 1) / 16 := by omega
        have hB : bkRd pg who at_ room l x fr d = ⟨0, (scK fr pg d l 0 all l.length).2.1, (scK fr pg d l 0 all l.length).2.1, (scK fr pg d l 0 all l.length).2.2.1, (scK fr pg d l 0 all l.length).2.2.2, x⟩ := by rw [bkRd, if_pos hw, hall]
        rw [hB]
        refine run_form (E := 5) (sz := 1) (a := a0) (c := c0) (n := all.length) (ys := byV all) (fun hf2 => ?_)
        refine run_cap (E := 5) (sz := 1) (a := a0) (c := c0) (n := all.length) (fun hcap => ?_)
        refine run_form (E := 99) (sz := 4) (a := a) (c := c) (n := l.length) (ys := l.flatMap dsV) (fun hf1 => ?_)
        refine x_draw [(rq, 0, _)] 11 mixed rfl (sc_own sc_end) (fun hS => ?_)
        refine d_take 0 rfl rfl (by kernel_rfl) (by kernel_rfl) (by kernel_rfl) rfl hS (v_move rfl) ?_
        refine d_take 1 rfl rfl (by kernel_rfl) (by kernel_rfl) (by kernel_rfl) rfl hS (v_nilCheck rfl) ?_
        refine d_take 2 rfl rfl (by kernel_rfl) (by kernel_rfl) (by kernel_rfl) rfl hS (v_fieldAddr rfl Tryz.underlying353 rfl Tryz.sizeOf51 rfl (by first | exact Nat.zero_add _ | rfl)) ?_
        refine d_take 3 rfl rfl (by kernel_rfl) (by kernel_rfl) (by kernel_rfl) rfl hS (v_load Tryz.isAgg51 rfl (cell_sc0 (k := 0) rfl rfl)) ?_
        refine d_take 4 rfl rfl (by kernel_rfl) (by kernel_rfl) (by kernel_rfl) rfl hS (v_move rfl) ?_
        refine d_take 5 rfl rfl (by kernel_rfl) (by kernel_rfl) (by kernel_rfl) rfl hS (v_nilCheck rfl) ?_
        refine d_take 6 rfl rfl (by kernel_rfl) (by kernel_rfl) (by kernel_rfl) rfl hS (v_fieldAddr rfl Tryz.underlying353 rfl Tryz.sizeOf43 rfl (by first | exact Nat.zero_add _ | rfl)) ?_
        refine d_take 7 rfl rfl (by kernel_rfl) (by kernel_rfl) (by kernel_rfl) rfl hS (v_load Tryz.isAgg43 rfl (cell_sc0 (k := 0) rfl rfl)) ?_
        refine d_take 8 rfl rfl (by kernel_rfl) (by kernel_rfl) (by kernel_rfl) rfl hS (v_move rfl) ?_
        refine d_one 9 (by kernel_rfl) rfl rfl (d_call3 Tryz.call115 rfl (chScatter_spec W0 _ pv ps pm d c c0 a a0 fr pg h hF hd l (sla_cells hf1 (cells_osl (E := 99) (sz := 4) (a := a) (n := l.length) (c := c)) (fun _ => rfl) rfl (by decide)) hl (by omega) 0 (by decide) all hby (sla_cells hf2 (cells_osl (E := 5) (sz := 1) (a := a0) (n := all.length) (c := c0)) (fun _ => rfl) (byV_fm all).symm (by decide)) (by omega) hcap.1)) rfl ?_; clear hS
        rintro _ B_ ⟨rfl, hB_⟩
        obtain rfl := hB_.symm
        refine ⟨(sc_own sc_end), fun hS => ?_⟩
        refine d_take 10 rfl rfl (by kernel_rfl) (by kernel_rfl) (by kernel_rfl) rfl hS (v_assign rfl) ?_
        refine d_done (by kernel_rfl) ?_; clear hS
        refine n_then (x_seq (x_region (s_val rfl (v_move rfl) (s_val rfl (v_move rfl) (s_val rfl (v_build Tryz.underlying302 Tryz.zeroValue302 (sized_cons Tryz.sizeOf3 (sized_cons Tryz.sizeOf3 (sized_cons Tryz.sizeOf3 sized_nil))) (fil_scal rfl Tryz.sizeOf3 rfl rfl (Nat.le_of_ble_eq_true rfl) SetL.eq (fil_scal rfl Tryz.sizeOf3 rfl rfl (Nat.le_of_ble_eq_true rfl) SetL.eq (fil_scal rfl Tryz.sizeOf3 rfl rfl (Nat.le_of_ble_eq_true rfl) SetL.eq fil_nil)))) ?_)))))
        refine s_do0 (d_storeAll Tryz.sizeOf302 rfl rfl rfl rfl rfl) ?_
        rintro _ _ rfl
        refine x_nil (n_then (x_ret (x_done (.inl rfl) (.cons (r_all Tryz.isAgg302 Tryz.sizeOf302 rfl rfl) .nil) ?_)))
        exact ⟨_, ⟨rfl, rfl⟩, inferInstance⟩
end Go.Proofs.YtlnmofhehcilhaaGreat
namespace Go.Proofs.YtlnmofhehcilhaaGreat
open Go.RowKit
set_option linter.unusedSimpArgs false
set_option linter.unusedVariables false
set_option maxRecDepth 20000
theorem bkWrite_spec (W0 : World) (R : List HP) (rq pv dd c cD room : Nat) (a aD : Option Addr) (nL what : Nat) (x : Dk) (hx : DkOk x) (who : Int) (at_ : Nat) (hat : at_ < 4294967296) (D : List Nat) (hD : By D) (hn : D.length ≤ 512) (hcD : D.length ≤ cD ∧ cD ≤ maxLen) (pg : List Pl) (l : List Dsc) (fr : List Frm) (d : Nat) (hs : SlA (OwnP W0 R) aD 1 (fun x => [bV x]) D) :
    Spec Tryz.prog W0 265 [.pointer (some ⟨rq, 0, none⟩)] (pt rq (blqO pv dd a nL c who what at_ aD D.length cD room) :: dkH dd x :: R)
      (fun v B => v = .agg (ouV (bkWr who at_ D x fr d).how (bkWr who at_ D x fr d).m (bkWr who at_ D x fr d).t).toArray ∧ B = pt rq (blqO pv dd a nL c who what at_ aD D.length cD room) :: dkH dd (bkWr who at_ D x fr d).x :: R) := by
  refine spec_body Tryz.func265 Tryz.ntmps265 rfl rfl ?_
  refine x_seq (x_region (s_do rfl (d_allocA Tryz.zeroValue302) ?_))
  rintro _ _ ⟨bo, rfl, rfl⟩
  refine x_nil (n_then (x_seq (x_seq (x_region (s_val rfl (v_move rfl) (s_val rfl (v_nilCheck rfl) ?_))))))
  refine s_val rfl (v_fieldAddr rfl Tryz.underlying353 rfl Tryz.sizeOf44 rfl (by first | exact Nat.zero_add _ | rfl)) ?_
  refine s_val rfl (v_load Tryz.isAgg44 rfl (cell_own rfl)) ?_
  refine s_val rfl (v_len_slice Tryz.underlying44 rfl) (s_do rfl (d_call Tryz.call288 rfl (bkWhole_spec W0 _ D.length)) ?_)
  rintro _ B_ ⟨rfl, hB_⟩
  obtain rfl := hB_.symm
  refine s_val rfl (v_not rfl) (x_nil (n_then ?_))
  refine x_if rfl ?_ ?_
  · intro c1
    refine x_seq (x_region (s_val rfl (v_build Tryz.underlying302 Tryz.zeroValue302 (sized_cons Tryz.sizeOf3 (sized_cons Tryz.sizeOf3 (sized_cons Tryz.sizeOf3 sized_nil))) (fil_scal rfl Tryz.sizeOf3 rfl rfl (Nat.le_of_ble_eq_true rfl) SetL.eq fil_nil)) ?_))
    refine s_do0 (d_storeAll Tryz.sizeOf302 rfl rfl rfl rfl rfl) ?_
    rintro _ _ rfl
    refine x_nil (n_then (x_ret (r_then (x_done (.inl rfl) (.cons (r_all Tryz.isAgg302 Tryz.sizeOf302 rfl rfl) .nil) ?_))))
    have hw : ¬ D.length % 16 = 0 := by simpa using c1
    have hB : bkWr who at_ D x fr d = ⟨1, 0, 0, fr, d, x⟩ := by rw [bkWr, if_neg hw]
    rw [hB]
    exact ⟨_, ⟨rfl, rfl⟩, inferInstance⟩
  · intro c1
    refine x_skip (n_then (x_seq (x_seq ?_)))
    have hw : D.length % 16 = 0 := by simpa using c1
    refine x_region (s_val rfl (v_move rfl) (s_val rfl (v_nilCheck rfl) ?_))
    refine s_val rfl (v_fieldAddr rfl Tryz.underlying353 rfl Tryz.sizeOf44 rfl (by first | exact Nat.zero_add _ | rfl)) ?_
    refine s_val rfl (v_load Tryz.isAgg44 rfl (cell_own rfl)) ?_
    refine s_val rfl (v_len_slice Tryz.underlying44 rfl) ?_
    refine s_val rfl (v_quo rfl rfl (by decide) ((congrArg (IntKind.wrap .i64) (tdivN D.length 16)).trans (w64 (by omega)))) ?_
    refine s_val rfl (v_move rfl) (x_nil (n_then (x_block ?_)))
    refine x_loop (fun i : Nat => i ≤ D.length / 16 ∧ (wrG x who at_ D i).2 = none) (fun i => [(0, .pointer (some ⟨rq, 0, none⟩)), (2, .pointer (some ⟨bo, 0, none⟩)), (18, .int .i64 (D.length / 16 : Nat)), (19, .int .i64 i)]) (fun i => pt bo (cob (ouV 0 0 0) 302) :: pt rq (blqO pv dd a nL c who what at_ aD D.length cD room) :: dkH dd (wrG x who at_ D i).1 :: R) (fun i => D.length / 16 - i) 0 ?_ ?_ ?_ ?_
    · exact ⟨Nat.zero_le _, rfl⟩
    · repeat (first | exact sub_nil | refine sub_cons rfl ?_)
    · show Ent _ (pt bo (cob (ouV 0 0 0) 302) :: pt rq (blqO pv dd a nL c who what at_ aD D.length cD room) :: dkH dd x :: R)
      exact inferInstance
    · intro i ⟨hi, hno⟩
      obtain ⟨y, hy⟩ : ∃ y, (wrG x who at_ D i).1 = y := ⟨_, rfl⟩
      have hwi : wrG x who at_ D i = (y, none) := by rw [← hy, ← hno]
      have hyk : DkOk y := by rw [← hy]; exact (wrG_ok hx who at_ hD i).1
      rw [hy]
      refine x_seq (x_region (s_val rfl (v_lss rfl rfl) (x_nil (n_then (x_seq ?_)))))
      refine x_if rfl ?_ ?_
      · intro c4
        refine x_skip (n_then (x_seq (x_block (x_seq ?_))))
        have hi1 : i < D.length / 16 := by omega
        obtain ⟨E, hE⟩ : ∃ E, (D.drop (16 * i)).take 16 = E := ⟨_, rfl⟩
        have hEl : E.length = 16 := by rw [← hE, List.length_take, List.length_drop]; omega
        have hEb : By E := by rw [← hE]; exact (hD.drop _).take _
        have hEs : SlA (OwnP W0 R) (sliA aD cD (16 * i) 1) 1 (fun x => [bV x]) E := by rw [← hE]; exact hs.sub (by omega) hcD.1
        have hnx : wrG x who at_ D (i + 1) = if wrDE y who (at_ + i) 16 = 0 then (wrDk y who (at_ + i) E, none) else (y, some (16 * i)) := by
          rw [wrG, hwi]; dsimp only; rw [hE, hEl]
        refine x_region (s_val rfl (v_move rfl) (s_val rfl (v_assign rfl) (x_nil (n_then (x_seq (x_region (s_val rfl (v_move rfl) ?_)))))))
        refine s_val rfl (v_mul rfl rfl (by rw [w64 (by omega)]; omega : IntKind.wrap .i64 ((i : Int) * 16) = ((16 * i : Nat) : Int))) ?_
        refine s_val rfl (v_assign rfl) (x_nil (n_then (x_seq ?_)))
        refine x_draw [(rq, 0, _)] 24 mixed rfl (sc_own sc_end) (fun hS => ?_)
        refine d_take 0 rfl rfl (by kernel_rfl) (by kernel_rfl) (by kernel_rfl) rfl hS (v_move rfl) ?_
        refine d_take 1 rfl rfl (by kernel_rfl) (by kernel_rfl) (by kernel_rfl) rfl hS (v_nilCheck rfl) ?_
        refine d_take 2 rfl rfl (by kernel_rfl) (by kernel_rfl) (by kernel_rfl) rfl hS (v_fieldAddr rfl Tryz.underlying353 rfl Tryz.sizeOf93 rfl (by first | exact Nat.zero_add _ | rfl)) ?_
        refine d_take 3 rfl rfl (by kernel_rfl) (by kernel_rfl) (by kernel_rfl) rfl hS (v_load Tryz.isAgg93 rfl (cell_sc0 (k := 0) rfl rfl)) ?_
        refine d_take 4 rfl rfl (by kernel_rfl) (by kernel_rfl) (by kernel_rfl) rfl hS (v_move rfl) ?_
        refine d_take 5 rfl rfl (by kernel_rfl) (by kernel_rfl) (by kernel_rfl) rfl hS (v_nilCheck rfl) ?_
        refine d_take 6 rfl rfl (by kernel_rfl) (by kernel_rfl) (by kernel_rfl) rfl hS (v_fieldAddr rfl Tryz.underlying353 rfl Tryz.sizeOf3 rfl (by first | exact Nat.zero_add _ | rfl)) ?_
        refine d_take 7 rfl rfl (by kernel_rfl) (by kernel_rfl) (by kernel_rfl) rfl hS (v_load Tryz.isAgg3 rfl (cell_sc0 (k := 0) rfl rfl)) ?_
        refine d_take 8 rfl rfl (by kernel_rfl) (by kernel_rfl) (by kernel_rfl) rfl hS (v_move rfl) ?_
        refine d_take 9 rfl rfl (by kernel_rfl) (by kernel_rfl) (by kernel_rfl) rfl hS (v_nilCheck rfl) ?_
        refine d_take 10 rfl rfl (by kernel_rfl) (by kernel_rfl) (by kernel_rfl) rfl hS (v_fieldAddr rfl Tryz.underlying353 rfl Tryz.sizeOf3 rfl (by first | exact Nat.zero_add _ | rfl)) ?_
        refine d_take 11 rfl rfl (by kernel_rfl) (by kernel_rfl) (by kernel_rfl) rfl hS (v_load Tryz.isAgg3 rfl (cell_sc0 (k := 0) rfl rfl)) ?_
        refine d_take 12 rfl rfl (by kernel_rfl) (by kernel_rfl) (by kernel_rfl) rfl hS (v_move rfl) ?_
        refine d_take 13 rfl rfl (by kernel_rfl) (by kernel_rfl) (by kernel_rfl) rfl hS (v_add rfl rfl (w64 (by omega))) ?_
        refine d_take 14 rfl rfl (by kernel_rfl) (by kernel_rfl) (by kernel_rfl) rfl hS (v_move rfl) ?_
        refine d_take 15 rfl rfl (by kernel_rfl) (by kernel_rfl) (by kernel_rfl) rfl hS (v_nilCheck rfl) ?_
        refine d_take 16 rfl rfl (by kernel_rfl) (by kernel_rfl) (by kernel_rfl) rfl hS (v_fieldAddr rfl Tryz.underlying353 rfl Tryz.sizeOf44 rfl (by first | exact Nat.zero_add _ | rfl)) ?_
        refine d_take 17 rfl rfl (by kernel_rfl) (by kernel_rfl) (by kernel_rfl) rfl hS (v_load Tryz.isAgg44 rfl (cell_sc0 (k := 0) rfl rfl)) ?_
        refine d_take 18 rfl rfl (by kernel_rfl) (by kernel_rfl) (by kernel_rfl) rfl hS (v_move rfl) ?_
        refine d_take 19 rfl rfl (by kernel_rfl) (by kernel_rfl) (by kernel_rfl) rfl hS (v_move rfl) ?_
        refine d_take 20 rfl rfl (by kernel_rfl) (by kernel_rfl) (by kernel_rfl) rfl hS (v_add rfl rfl (by rw [w64 (by omega)]; omega : IntKind.wrap .i64 (((16 * i : Nat) : Int) + 16) = ((16 * i + 16 : Nat) : Int))) ?_
        refine d_take 21 rfl rfl (by kernel_rfl) (by kernel_rfl) (by kernel_rfl) rfl hS (v_sliceLHg Tryz.underlying44 Tryz.sizeOf5 rfl (i := 16 * i) (h := 16 * i + 16) rfl rfl rfl rfl (by omega) (by omega)) ?_
        rw [show 16 * i + 16 - 16 * i = E.length by omega]
        refine d_one 22 (by kernel_rfl) rfl rfl (d_call1 Tryz.call290 rfl (dkWrite_spec W0 _ dd y hyk who ((at_ : Int) + (i : Int)) (sliA aD cD (16 * i) 1) (cD - 16 * i) E hEb (by omega) hEs.weak)) rfl ?_; clear hS
        rintro _ B_ ⟨rfl, hB_⟩
        obtain rfl := hB_.symm
        rw [hEl]
        refine ⟨(sc_own sc_end), fun hS => ?_⟩
        refine d_take 23 rfl rfl (by kernel_rfl) (by kernel_rfl) (by kernel_rfl) rfl hS (v_neq rfl rfl) ?_
        refine d_done (by kernel_rfl) ?_; clear hS
        refine n_then ?_
        refine x_if rfl ?_ ?_
        · intro c7
          refine x_seq (x_region (s_val rfl (v_move rfl) (s_val rfl (v_build Tryz.underlying302 Tryz.zeroValue302 (sized_cons Tryz.sizeOf3 (sized_cons Tryz.sizeOf3 (sized_cons Tryz.sizeOf3 sized_nil))) (fil_scal rfl Tryz.sizeOf3 rfl rfl (Nat.le_of_ble_eq_true rfl) SetL.eq (fil_scal rfl Tryz.sizeOf3 rfl rfl (Nat.le_of_ble_eq_true rfl) SetL.eq fil_nil))) ?_)))
          refine s_do0 (d_storeAll Tryz.sizeOf302 rfl rfl rfl rfl rfl) ?_
          rintro _ _ rfl
          refine x_nil (n_then (x_ret (r_block (r_then (r_then (r_block (r_then (x_done (.inl rfl) (.cons (r_all Tryz.isAgg302 Tryz.sizeOf302 rfl rfl) .nil) ?_))))))))
          have hq : ¬ wrDE y who (at_ + i) 16 = 0 := by first | exact c7 | simpa using c7
          rw [if_neg hq] at hnx
          have hB : bkWr who at_ D x fr d = ⟨1, 16 * i, 0, fr, d, y⟩ := by rw [bkWr, if_pos hw, wrG_stop hnx (by omega)]
          have hWD : wrDk y who (at_ + i) E = y := by rw [wrDk, hEl, if_neg hq]
          rw [hB, hWD]
          exact ⟨_, ⟨rfl, rfl⟩, inferInstance⟩
        · intro c7
          refine x_skip (n_block (n_then ?_))
          have hq : wrDE y who (at_ + i) 16 = 0 := by first | exact Decidable.not_not.1 c7 | simpa using c7
          rw [if_pos hq] at hnx
          have hn1 : (wrG x who at_ D (i + 1)).1 = wrDk y who (at_ + i) E := by rw [hnx]
          rw [← hn1]
          refine x_region ?_
          refine s_val rfl (v_add rfl rfl (by first | exact w64 (by omega) | rfl)) ?_
          refine s_val rfl (v_move rfl) (x_nil (n_then ?_))
          refine inv_intro (i + 1) ?_ ?_ ?_ ?_
          · exact ⟨by omega, by rw [hnx]⟩
          · omega
          · repeat (first | exact sub_nil | refine sub_cons rfl ?_)
          · exact inferInstance
      · intro c4
        refine x_exit (e_then (e_then (e_block (n_then (x_seq ?_)))))
        obtain rfl : i = D.length / 16 := by omega
        have hB : bkWr who at_ D x fr d = ⟨0, D.length, 0, fr, d, y⟩ := by rw [bkWr, if_pos hw, hwi]
        rw [hB]
        refine x_region (s_val rfl (v_move rfl) (s_val rfl (v_nilCheck rfl) ?_))
        refine s_val rfl (v_fieldAddr rfl Tryz.underlying353 rfl Tryz.sizeOf44 rfl (by first | exact Nat.zero_add _ | rfl)) ?_
        refine s_val rfl (v_load Tryz.isAgg44 rfl (cell_own rfl)) ?_
        refine s_val rfl (v_len_slice Tryz.underlying44 rfl) (s_val rfl (v_build Tryz.underlying302 Tryz.zeroValue302 (sized_cons Tryz.sizeOf3 (sized_cons Tryz.sizeOf3 (sized_cons Tryz.sizeOf3 sized_nil))) (fil_scal rfl Tryz.sizeOf3 rfl rfl (Nat.le_of_ble_eq_true rfl) SetL.eq (fil_scal rfl Tryz.sizeOf3 rfl rfl (Nat.le_of_ble_eq_true rfl) SetL.eq fil_nil))) ?_)
        refine s_do0 (d_storeAll Tryz.sizeOf302 rfl rfl rfl rfl rfl) ?_
        rintro _ _ rfl
        refine x_nil (n_then (x_ret (x_done (.inl rfl) (.cons (r_all Tryz.isAgg302 Tryz.sizeOf302 rfl rfl) .nil) ?_)))
        exact ⟨_, ⟨rfl, rfl⟩, inferInstance⟩
theorem bkOther_spec (W0 : World) (R : List HP) (p : Value) : Spec Tryz.prog W0 266 [p] R (fun v B => v = .agg (ouV 2 0 0).toArray ∧ B = R) := by
  refine spec_body Tryz.func266 Tryz.ntmps266 rfl rfl ?_
  refine x_seq (x_region (s_do rfl (d_allocA Tryz.zeroValue302) ?_))
  rintro _ _ ⟨b1, rfl, rfl⟩
  refine x_nil (n_then (x_seq (x_region (s_val rfl (v_build Tryz.underlying302 Tryz.zeroValue302 (sized_cons Tryz.sizeOf3 (sized_cons Tryz.sizeOf3 (sized_cons Tryz.sizeOf3 sized_nil))) (fil_scal rfl Tryz.sizeOf3 rfl rfl (Nat.le_of_ble_eq_true rfl) SetL.eq fil_nil)) ?_))))
  refine s_do0 (d_storeAll Tryz.sizeOf302 rfl rfl rfl rfl rfl) ?_
  rintro _ _ rfl
  refine x_nil (n_then (x_ret (x_done (.inl rfl) (.cons (r_all Tryz.isAgg302 Tryz.sizeOf302 rfl rfl) .nil) ?_)))
  exact ⟨_, ⟨rfl, rfl⟩, inferInstance⟩
def doF (what : Nat) : FuncId := if what = 0 then 264 else if what = 1 then 265 else 266
theorem doF_call (what : Nat) : ∀ args w, (callFunc (doF what) args).run Tryz.prog w = .ok (.enter (doF what) args) w := by
  unfold doF; split
  · exact Tryz.call264
  · split
    · exact Tryz.call265
    · exact Tryz.call266
theorem bkDoing_spec (W0 : World) (R : List HP) (rq pv dd nL c nD cD room what : Nat) (a aD : Option Addr) (who : Int) (at_ : Nat) :
    Spec Tryz.prog W0 214 [.pointer (some ⟨rq, 0, none⟩)] (pt rq (blqO pv dd a nL c who what at_ aD nD cD room) :: R)
      (fun v B => v = .func (.func (doF what)) #[.pointer (some ⟨rq, 0, none⟩)] #[] ∧ B = pt rq (blqO pv dd a nL c who what at_ aD nD cD room) :: R) := by
  refine spec_body Tryz.func214 Tryz.ntmps214 rfl rfl ?_
  refine x_seq (x_region (s_val rfl (v_assign rfl) (x_nil (n_then (x_seq (x_seq (x_region (s_val rfl (v_move rfl) (s_val rfl (v_nilCheck rfl) ?_)))))))))
  refine s_val rfl (v_fieldAddr rfl Tryz.underlying353 rfl Tryz.sizeOf47 rfl (by first | exact Nat.zero_add _ | rfl)) ?_
  refine s_val rfl (v_load Tryz.isAgg47 rfl (cell_own rfl)) ?_
  refine x_nil (n_then (x_block (x_seq (x_region (s_val rfl (v_eql rfl rfl) (s_val rfl (v_assign rfl) (x_nil (n_then ?_))))))))
  refine x_if rfl ?_ ?_
  · intro c2
    refine x_seq (x_region (s_val rfl (v_move rfl) (s_val rfl (v_mkFunc rfl rfl) ?_)))
    refine s_val rfl (v_assign rfl) (x_nil (n_then (x_ret (r_block (r_then (x_done (.inl rfl) (.cons (r_tmp rfl) .nil) ?_))))))
    have h0 : what = 0 := by omega
    rw [doF, if_pos h0]; exact ⟨_, ⟨rfl, rfl⟩, inferInstance⟩
  · intro c2
    refine x_seq (x_region (s_val rfl (v_eql rfl rfl) (s_val rfl (v_assign rfl) (x_nil (n_then ?_)))))
    refine x_if rfl ?_ ?_
    · intro c4
      refine x_seq (x_region (s_val rfl (v_move rfl) (s_val rfl (v_mkFunc rfl rfl) ?_)))
      refine s_val rfl (v_assign rfl) (x_nil (n_then (x_ret (r_block (r_then (x_done (.inl rfl) (.cons (r_tmp rfl) .nil) ?_))))))
      have h0 : ¬ what = 0 := by omega
      have h1 : what = 1 := by omega
      rw [doF, if_neg h0, if_pos h1]; exact ⟨_, ⟨rfl, rfl⟩, inferInstance⟩
    · intro c4
      refine x_skip (n_block (n_then (x_seq (x_region (s_val rfl (v_move rfl) (s_val rfl (v_mkFunc rfl rfl) ?_))))))
      refine s_val rfl (v_assign rfl) (x_nil (n_then (x_ret (x_done (.inl rfl) (.cons (r_tmp rfl) .nil) ?_))))
      have h0 : ¬ what = 0 := by omega
      have h1 : ¬ what = 1 := by omega
      rw [doF, if_neg h0, if_neg h1]; exact ⟨_, ⟨rfl, rfl⟩, inferInstance⟩
theorem bkDo_spec (W0 : World) (R : List HP) (rq pv dd ps pm d c cb room what : Nat) (a ab : Option Addr) (fr : List Frm) (pg : List Pl) (h : Pgs pg) (hF : Frs fr) (hd : d < 4096) (l : List Dsc) (hl : ∀ y ∈ l, y.ok) (hn : l.length ≤ 9) (x : Dk) (hx : DkOk x) (who : Int) (at_ : Nat) (hat : at_ < 4294967296) (hr : 1 ≤ room ∧ room ≤ 38654705664)
    (G : List Nat) (hG : By G) (hg : 8 ≤ G.length ∧ G.length ≤ 512) (hcb : G.length ≤ cb ∧ cb ≤ maxLen) (hf : Frm0 ab (byV G)) (r : BlR) (hrr : bkDo pg who at_ what room l (G.drop 8) x fr d = r) :
    Spec Tryz.prog W0 (doF what) ([.pointer (some ⟨rq, 0, none⟩)] ++ [] ++ []) (pt rq (blqO pv dd a l.length c who what at_ (sliA ab cb 8 1) (G.length - 8) (cb - 8) room) :: osl 5 1 (.slice ab G.length cb) (byV G) :: osl 99 4 (.slice a l.length c) (l.flatMap dsV) :: dkH dd x :: vwW pv ps pm d fr pg R)
      (fun v B => v = .agg (ouV r.how r.m r.t).toArray ∧ B = pt rq (blqO pv dd a l.length c who what at_ (sliA ab cb 8 1) (G.length - 8) (cb - 8) room) :: osl 5 1 (.slice ab G.length cb) (byV G) :: osl 99 4 (.slice a l.length c) (l.flatMap dsV) :: dkH dd r.x :: vwW pv ps pm r.d r.fr pg R) := by
  subst hrr
  have hDl : (G.drop 8).length = G.length - 8 := List.length_drop ..
  unfold doF bkDo
  by_cases h0 : what = 0
  · subst h0
    rw [if_pos rfl, if_pos rfl]
    refine spec_ent (B := pt rq (blqO pv dd a l.length c who 0 at_ (sliA ab cb 8 1) (G.length - 8) (cb - 8) room) :: osl 99 4 (.slice a l.length c) (l.flatMap dsV) :: dkH dd x :: vwW pv ps pm d fr pg (osl 5 1 (.slice ab G.length cb) (byV G) :: R)) inferInstance ?_
    refine spec_post (bkRead_spec W0 _ rq pv dd ps pm d c (cb - 8) (G.length - 8) room a (sliA ab cb 8 1) fr pg h hF hd l hl hn x hx who at_ hat hr) fun v B hB => ?_
    obtain ⟨rfl, rfl⟩ := hB
    exact ⟨_, ⟨rfl, rfl⟩, inferInstance⟩
  · rw [if_neg h0, if_neg h0]
    by_cases h1 : what = 1
    · subst h1
      rw [if_pos rfl, if_pos rfl]
      obtain ⟨D, hD⟩ : ∃ D, G.drop 8 = D := ⟨_, rfl⟩
      have hDb : By D := by rw [← hD]; exact hG.drop 8
      have hs : SlA (OwnP W0 (osl 5 1 (.slice ab G.length cb) (byV G) :: osl 99 4 (.slice a l.length c) (l.flatMap dsV) :: vwW pv ps pm d fr pg R)) (sliA ab cb 8 1) 1 (fun x => [bV x]) D := by
        rw [← hD]
        exact sla_tail (sla_cells hf (cells_osl (E := 5) (sz := 1) (a := ab) (n := G.length) (c := cb)) (fun _ => rfl) (byV_fm G).symm (by decide)) hcb.1 (by omega)
      rw [hD] at hDl ⊢
      rw [← hDl]
      refine spec_ent (B := pt rq (blqO pv dd a l.length c who 1 at_ (sliA ab cb 8 1) D.length (cb - 8) room) :: dkH dd x :: osl 5 1 (.slice ab G.length cb) (byV G) :: osl 99 4 (.slice a l.length c) (l.flatMap dsV) :: vwW pv ps pm d fr pg R) inferInstance ?_
      refine spec_post (bkWrite_spec W0 _ rq pv dd c (cb - 8) room a (sliA ab cb 8 1) l.length 1 x hx who at_ hat D hDb (by omega) ⟨by omega, by omega⟩ pg l fr d hs) fun v B hB => ?_
      obtain ⟨rfl, rfl⟩ := hB
      have e1 : (bkWr who at_ D x fr d).fr = fr := by unfold bkWr; split <;> (try split) <;> rfl
      have e2 : (bkWr who at_ D x fr d).d = d := by unfold bkWr; split <;> (try split) <;> rfl
      rw [e1, e2]
      exact ⟨_, ⟨rfl, rfl⟩, inferInstance⟩
    · rw [if_neg h1, if_neg h1]
      exact bkOther_spec W0 _ _
theorem bkEnd_spec (W0 : World) (R : List HP) (rq pv dd ps pm d c cD nD room what : Nat) (a aD : Option Addr) (fr : List Frm) (pg : List Pl) (h : Pgs pg) (hF : Frs fr) (hd : d < 4096) (l : List Dsc) (hl : ∀ y ∈ l, y.ok) (hn : l.length ≤ 9) (who : Int) (at_ : Nat) (hr : 1 ≤ room ∧ room ≤ 38654705664) (how m t : Nat) (hh : how ≤ 2) :
    Spec Tryz.prog W0 215 [.pointer (some ⟨rq, 0, none⟩), .agg (ouV how m t).toArray] (osl 99 4 (.slice a l.length c) (l.flatMap dsV) :: pt rq (blqO pv dd a l.length c who what at_ aD nD cD room) :: vwW pv ps pm d fr pg R)
      (fun v B => v = .tuple #[] ∧ B = osl 99 4 (.slice a l.length c) (l.flatMap dsV) :: pt rq (blqO pv dd a l.length c who what at_ aD nD cD room) :: vwW pv ps pm (scK fr pg d l ((room - 1 : Nat) : Int) [how] l.length).2.2.2 (scK fr pg d l ((room - 1 : Nat) : Int) [how] l.length).2.2.1 pg R) := by
  refine spec_body Tryz.func215 Tryz.ntmps215 rfl rfl ?_
  refine x_seq (x_region (s_do rfl (d_boxA rfl) ?_))
  rintro _ _ ⟨bo, rfl, rfl⟩
  refine x_nil (n_then ?_)
  refine run_form (E := 99) (sz := 4) (a := a) (c := c) (n := l.length) (ys := l.flatMap dsV) (fun hf1 => ?_)
  refine x_draw [(rq, 0, _), (bo, 0, _)] 18 mixed rfl (sc_own (sc_own sc_end)) (fun hS => ?_)
  refine d_take 0 rfl rfl (by kernel_rfl) (by kernel_rfl) (by kernel_rfl) rfl hS (v_move rfl) ?_
  refine d_take 1 rfl rfl (by kernel_rfl) (by kernel_rfl) (by kernel_rfl) rfl hS (v_nilCheck rfl) ?_
  refine d_take 2 rfl rfl (by kernel_rfl) (by kernel_rfl) (by kernel_rfl) rfl hS (v_fieldAddr rfl Tryz.underlying353 rfl Tryz.sizeOf51 rfl (by first | exact Nat.zero_add _ | rfl)) ?_
  refine d_take 3 rfl rfl (by kernel_rfl) (by kernel_rfl) (by kernel_rfl) rfl hS (v_load Tryz.isAgg51 rfl (by first | exact cell_sc0 (k := 0) rfl rfl | exact cell_sc0 (k := 1) rfl rfl)) ?_
  refine d_take 4 rfl rfl (by kernel_rfl) (by kernel_rfl) (by kernel_rfl) rfl hS (v_move rfl) ?_
  refine d_take 5 rfl rfl (by kernel_rfl) (by kernel_rfl) (by kernel_rfl) rfl hS (v_nilCheck rfl) ?_
  refine d_take 6 rfl rfl (by kernel_rfl) (by kernel_rfl) (by kernel_rfl) rfl hS (v_fieldAddr rfl Tryz.underlying353 rfl Tryz.sizeOf43 rfl (by first | exact Nat.zero_add _ | rfl)) ?_
  refine d_take 7 rfl rfl (by kernel_rfl) (by kernel_rfl) (by kernel_rfl) rfl hS (v_load Tryz.isAgg43 rfl (by first | exact cell_sc0 (k := 0) rfl rfl | exact cell_sc0 (k := 1) rfl rfl)) ?_
  refine d_take 8 rfl rfl (by kernel_rfl) (by kernel_rfl) (by kernel_rfl) rfl hS (v_move rfl) ?_
  refine d_take 9 rfl rfl (by kernel_rfl) (by kernel_rfl) (by kernel_rfl) rfl hS (v_nilCheck rfl) ?_
  refine d_take 10 rfl rfl (by kernel_rfl) (by kernel_rfl) (by kernel_rfl) rfl hS (v_fieldAddr rfl Tryz.underlying353 rfl Tryz.sizeOf3 rfl (by first | exact Nat.zero_add _ | rfl)) ?_
  refine d_take 11 rfl rfl (by kernel_rfl) (by kernel_rfl) (by kernel_rfl) rfl hS (v_load Tryz.isAgg3 rfl (by first | exact cell_sc0 (k := 0) rfl rfl | exact cell_sc0 (k := 1) rfl rfl)) ?_
  refine d_take 12 rfl rfl (by kernel_rfl) (by kernel_rfl) (by kernel_rfl) rfl hS (v_sub rfl rfl (by rw [w64 (by omega)]; omega : IntKind.wrap .i64 ((room : Int) - 1) = ((room - 1 : Nat) : Int))) ?_
  refine d_take 13 rfl rfl (by kernel_rfl) (by kernel_rfl) (by kernel_rfl) rfl hS (v_fieldAddr rfl Tryz.underlying302 rfl Tryz.sizeOf3 rfl (by first | exact Nat.zero_add _ | rfl)) ?_
  refine d_take 14 rfl rfl (by kernel_rfl) (by kernel_rfl) (by kernel_rfl) rfl hS (v_load Tryz.isAgg3 rfl (by first | exact cell_sc0 (k := 0) rfl rfl | exact cell_sc0 (k := 1) rfl rfl)) ?_
  refine d_take 15 rfl rfl (by kernel_rfl) (by kernel_rfl) (by kernel_rfl) rfl hS (v_conv Tryz.underlying3 Tryz.underlying5 rfl (w8u (by omega))) ?_
  refine d_one 16 (by kernel_rfl) rfl rfl (d_sliceLit Tryz.underlying44 Tryz.sizeOf5 Tryz.zeroValue5 rfl rfl rfl rfl rfl (by decide) (by decide)) rfl ?_; clear hS
  rintro _ _ ⟨bb, rfl, rfl⟩
  refine ⟨(sc_own (sc_own sc_end)), fun hS => ?_⟩
  refine d_one 17 (by kernel_rfl) rfl rfl (d_call3 Tryz.call115 rfl (chScatter_spec W0 _ pv ps pm d c 1 a (some ⟨bb, 0, none⟩) fr pg h hF hd l (sla_cells hf1 (cells_osl (E := 99) (sz := 4) (a := a) (n := l.length) (c := c)) (fun _ => rfl) rfl (by decide)) hl (by omega) ((room - 1 : Nat) : Int) (by omega) [how] (fun y hy => by simp at hy; omega) (sla_byV (cells_all (b := bb))) (by simp) (by simp))) rfl ?_; clear hS
  rintro _ B_ ⟨rfl, hB_⟩
  obtain rfl := hB_.symm
  refine ⟨(sc_own (sc_own sc_end)), fun hS => ?_⟩
  refine d_done (by kernel_rfl) ?_; clear hS
  refine x_done (.inr rfl) .nil ?_
  exact ⟨_, ⟨rfl, rfl⟩, inferInstance⟩
end Go.Proofs.YtlnmofhehcilhaaGreat
namespace Go.Proofs.YtlnmofhehcilhaaGreat
open Go.RowKit
set_option linter.unusedSimpArgs false
set_option linter.unusedVariables false
set_option maxRecDepth 20000
def bkG (fr : List Frm) (pg : List Pl) (l : List Dsc) : List Nat := gthK fr pg l 512 l.length
def bkB_ (fr : List Frm) (pg : List Pl) (l : List Dsc) : Bool := decide (8 ≤ (bkG fr pg l).length ∧ 1 ≤ lenW l true)
@[reducible] def bkY (rq pv dd c cb : Nat) (a ab : Option Addr) (who : Int) (l : List Dsc) (G : List Nat) : List HP := [pt rq (blqO pv dd a l.length c who (wdAt (G.take 8) 0) (wdAt (G.take 8) 1) (sliA ab cb 8 1) (G.length - 8) (cb - 8) (lenW l true)), osl 5 1 (.slice ab G.length cb) (byV G)]
theorem bkAsked_spec (W0 : World) (R : List HP) (pv dd ps pm d c : Nat) (a : Option Addr) (fr : List Frm) (pg : List Pl) (h : Pgs pg) (hF : Frs fr) (l : List Dsc) (hl : ∀ y ∈ l, y.ok) (hn : l.length ≤ 9) (who : Int) (G : List Nat) (hG : bkG fr pg l = G) :
    Spec Tryz.prog W0 212 [.pointer (some ⟨pv, 0, none⟩), .pointer (some ⟨dd, 0, none⟩), .slice a l.length c, .int .i64 who] (osl 99 4 (.slice a l.length c) (l.flatMap dsV) :: vwW pv ps pm d fr pg R)
      (fun v B => ∃ p Y, v = .tuple #[.pointer p, .bool (bkB_ fr pg l)] ∧ B = Y ++ (osl 99 4 (.slice a l.length c) (l.flatMap dsV) :: vwW pv ps pm d fr pg R) ∧ (bkB_ fr pg l = false → Y = []) ∧
        (bkB_ fr pg l = true → ∃ rq ab cb, p = some ⟨rq, 0, none⟩ ∧ Frm0 ab (byV G) ∧ G.length ≤ cb ∧ cb ≤ maxLen ∧ Y = bkY rq pv dd c cb a ab who l G)) := by
  have hGb : By G := by rw [← hG]; exact gthK_by hF pg l 512 l.length
  have hGl : G.length ≤ 512 := by
    have := (gthK_len fr pg l 512 l.length).2
    rw [← hG, bkG]; omega
  have hlw : lenW l true ≤ 38654705664 := by
    have := lenW_le hl true
    omega
  have hX : bkB_ fr pg l = decide (8 ≤ G.length ∧ 1 ≤ lenW l true) := by rw [bkB_, hG]
  refine spec_body Tryz.func212 Tryz.ntmps212 rfl rfl ?_
  refine x_seq (x_region (s_val rfl (v_assign rfl) (s_val rfl (v_assign rfl) (x_nil (n_then (x_seq ?_))))))
  refine run_form (E := 99) (sz := 4) (a := a) (c := c) (n := l.length) (ys := l.flatMap dsV) (fun hf1 => ?_)
  refine x_region (s_val rfl (v_move rfl) (s_val rfl (v_move rfl) ?_))
  refine s_do rfl (d_call3 Tryz.call187 rfl (chGather_spec W0 _ pv ps pm d c a fr pg h hF l (sla_cells hf1 (cells_osl (E := 99) (sz := 4) (a := a) (n := l.length) (c := c)) (fun _ => rfl) rfl (by decide)) hl (by omega) 512 (by decide))) ?_
  rintro _ B_ ⟨ab, cb, rfl, hB_⟩
  obtain rfl := hB_.symm
  rw [show gthK fr pg l 512 l.length = G from hG]
  refine s_val rfl (v_assign rfl) (x_nil (n_then (x_seq (x_region (s_val rfl (v_move rfl) ?_)))))
  refine s_do rfl (d_call1 Tryz.call186 rfl (chLen_spec W0 _ a c l true hl (by omega))) ?_
  rintro _ B_ ⟨rfl, hB_⟩
  obtain rfl := hB_.symm
  refine s_val rfl (v_assign rfl) (x_nil (n_then (x_seq (x_seq (x_region (s_val rfl (v_move rfl) (s_val rfl (v_len_slice Tryz.underlying44 rfl) (s_val rfl (v_lss rfl rfl) (s_val rfl (v_move rfl) ?_)))))))))
  refine s_or rfl rfl rfl ?_ ?_
  · intro g3_4
    refine s_no rfl rfl rfl rfl (s_val rfl (v_pick_t rfl rfl) (x_nil (n_then (x_ift rfl (x_seq (x_region (s_val rfl (v_assign rfl) (s_val rfl (v_assign rfl) (x_nil (n_then (x_ret (r_then (x_done (.inl rfl) (.cons (r_tmp rfl) (.cons (r_tmp rfl) .nil)) ?_)))))))))))))
    have hb : bkB_ fr pg l = false := by rw [hX]; exact decide_eq_false (by omega)
    rw [hb]
    refine ⟨_, ⟨none, [], rfl, rfl, (fun _ => rfl), (fun q => by cases q)⟩, ?_⟩
    simp only [List.nil_append]
    exact inferInstance
  · intro g3_4
    refine s_val rfl (v_move rfl) (s_yes rfl rfl (s_val rfl (v_lss rfl rfl) (s_val rfl (v_pick_f rfl rfl) (x_nil (n_then ?_)))))
    refine x_if rfl ?_ ?_
    · intro c3
      refine x_seq (x_region (s_val rfl (v_assign rfl) (s_val rfl (v_assign rfl) (x_nil (n_then (x_ret (r_then (x_done (.inl rfl) (.cons (r_tmp rfl) (.cons (r_tmp rfl) .nil)) ?_))))))))
      have hb : bkB_ fr pg l = false := by rw [hX]; exact decide_eq_false (by omega)
      rw [hb]
      refine ⟨_, ⟨none, [], rfl, rfl, (fun _ => rfl), (fun q => by cases q)⟩, ?_⟩
      simp only [List.nil_append]
      exact inferInstance
    · intro c3
      refine x_skip (n_then (x_seq ?_))
      have hb : bkB_ fr pg l = true := by rw [hX]; exact decide_eq_true (by omega)
      have h8 : 8 ≤ G.length := by omega
      have e8 : (G.take 8).length = 8 := by rw [List.length_take]; omega
      have hw1 := wdAt_lt (hGb.take 8) 1
      refine run_form (E := 5) (sz := 1) (a := ab) (c := cb) (n := G.length) (ys := byV G) (fun hf2 => ?_)
      refine run_cap (E := 5) (sz := 1) (a := ab) (c := cb) (n := G.length) (fun hcap => ?_)
      refine x_region (s_val rfl (v_move rfl) ?_)
      refine s_val rfl (v_sliceH Tryz.underlying44 Tryz.sizeOf5 rfl rfl (h := 8) rfl (by omega)) ?_
      refine s_do rfl (d_call Tryz.call263 rfl (e8 ▸ octWords_spec W0 _ ab cb (G.take 8) ((sla_cells (xs := G) (f := fun x => [bV x]) hf2 (cells_osl (E := 5) (sz := 1) (a := ab) (n := G.length) (c := cb)) (fun _ => rfl) (byV_fm G).symm (by decide)).take 8) (hGb.take 8) (by omega) (by omega))) ?_
      rintro _ B_ ⟨aw, cw, rfl, hB_⟩
      obtain rfl := hB_.symm
      rw [show 8 / 4 = 2 from rfl]
      refine run_form (E := 47) (sz := 1) (a := aw) (c := cw) (n := 2) (fun hf3 => ?_)
      obtain ⟨gw, rfl⟩ := form_some hf3 (by simp [wordsV])
      refine s_val rfl (v_assign rfl) (x_nil (n_then (x_seq ?_)))
      refine x_draw [(gw, 0, [.int .u32 (wdAt (G.take 8) 0 : Nat), .int .u32 (wdAt (G.take 8) 1 : Nat)])] 18 mixed rfl (sc_cons (cells_osl (E := 47) (sz := 1) (a := some ⟨gw, 0, none⟩) (n := 2) (c := cw)) sc_end) (fun hS => ?_)
      refine d_take 0 rfl rfl (by kernel_rfl) (by kernel_rfl) (by kernel_rfl) rfl hS (v_move rfl) ?_
      refine d_take 1 rfl rfl (by kernel_rfl) (by kernel_rfl) (by kernel_rfl) rfl hS (v_move rfl) ?_
      refine d_take 2 rfl rfl (by kernel_rfl) (by kernel_rfl) (by kernel_rfl) rfl hS (v_move rfl) ?_
      refine d_take 3 rfl rfl (by kernel_rfl) (by kernel_rfl) (by kernel_rfl) rfl hS (v_move rfl) ?_
      refine d_take 4 rfl rfl (by kernel_rfl) (by kernel_rfl) (by kernel_rfl) rfl hS (v_move rfl) ?_
      refine d_take 5 rfl rfl (by kernel_rfl) (by kernel_rfl) (by kernel_rfl) rfl hS (v_idx Tryz.underlying45 Tryz.sizeOf47 rfl rfl (i := 0) rfl (by decide) (by first | exact Nat.zero_add _ | rfl)) ?_
      refine d_take 6 rfl rfl (by kernel_rfl) (by kernel_rfl) (by kernel_rfl) rfl hS (v_load Tryz.isAgg47 rfl (by first | exact cell_sc0 (k := 0) rfl rfl | exact cell_sc0 (k := 1) rfl rfl | exact cell_sc0 (k := 2) rfl rfl | exact cell_sc0 (k := 3) rfl rfl | exact cell_sc0 (k := 4) rfl rfl)) ?_
      refine d_take 7 rfl rfl (by kernel_rfl) (by kernel_rfl) (by kernel_rfl) rfl hS (v_move rfl) ?_
      refine d_take 8 rfl rfl (by kernel_rfl) (by kernel_rfl) (by kernel_rfl) rfl hS (v_idx Tryz.underlying45 Tryz.sizeOf47 rfl rfl (i := 1) rfl (by decide) (by first | exact Nat.zero_add _ | rfl)) ?_
      refine d_take 9 rfl rfl (by kernel_rfl) (by kernel_rfl) (by kernel_rfl) rfl hS (v_load Tryz.isAgg47 rfl (by first | exact cell_sc0 (k := 0) rfl rfl | exact cell_sc0 (k := 1) rfl rfl | exact cell_sc0 (k := 2) rfl rfl | exact cell_sc0 (k := 3) rfl rfl | exact cell_sc0 (k := 4) rfl rfl)) ?_
      refine d_take 10 rfl rfl (by kernel_rfl) (by kernel_rfl) (by kernel_rfl) rfl hS (v_conv Tryz.underlying47 Tryz.underlying3 rfl (w64 (by omega))) ?_
      refine d_take 11 rfl rfl (by kernel_rfl) (by kernel_rfl) (by kernel_rfl) rfl hS (v_move rfl) ?_
      refine d_take 12 rfl rfl (by kernel_rfl) (by kernel_rfl) (by kernel_rfl) rfl hS (v_sliceLg Tryz.underlying44 Tryz.sizeOf5 rfl (i := 8) rfl rfl (by omega) rfl) ?_
      refine d_take 13 rfl rfl (by kernel_rfl) (by kernel_rfl) (by kernel_rfl) rfl hS (v_move rfl) ?_
      refine d_take 14 rfl rfl (by kernel_rfl) (by kernel_rfl) (by kernel_rfl) rfl hS (v_build Tryz.underlying353 Tryz.zeroValue353 (sized_cons Tryz.sizeOf51 (sized_cons Tryz.sizeOf93 (sized_cons Tryz.sizeOf43 (sized_cons Tryz.sizeOf3 (sized_cons Tryz.sizeOf47 (sized_cons Tryz.sizeOf3 (sized_cons Tryz.sizeOf44 (sized_cons Tryz.sizeOf3 sized_nil)))))))) (fil_scal rfl Tryz.sizeOf51 rfl rfl (Nat.le_of_ble_eq_true rfl) SetL.eq (fil_scal rfl Tryz.sizeOf93 rfl rfl (Nat.le_of_ble_eq_true rfl) SetL.eq (fil_scal rfl Tryz.sizeOf43 rfl rfl (Nat.le_of_ble_eq_true rfl) SetL.eq (fil_scal rfl Tryz.sizeOf3 rfl rfl (Nat.le_of_ble_eq_true rfl) SetL.eq (fil_scal rfl Tryz.sizeOf47 rfl rfl (Nat.le_of_ble_eq_true rfl) SetL.eq (fil_scal rfl Tryz.sizeOf3 rfl rfl (Nat.le_of_ble_eq_true rfl) SetL.eq (fil_scal rfl Tryz.sizeOf44 rfl rfl (Nat.le_of_ble_eq_true rfl) SetL.eq (fil_scal rfl Tryz.sizeOf3 rfl rfl (Nat.le_of_ble_eq_true rfl) SetL.eq fil_nil))))))))) ?_
      refine d_one 15 (by kernel_rfl) rfl rfl (d_boxA rfl) rfl ?_; clear hS
      rintro _ _ ⟨rq, rfl, rfl⟩
      refine ⟨(sc_cons (cells_osl (E := 47) (sz := 1) (a := some ⟨gw, 0, none⟩) (n := 2) (c := cw)) sc_end), fun hS => ?_⟩
      refine d_take 16 rfl rfl (by kernel_rfl) (by kernel_rfl) (by kernel_rfl) rfl hS (v_assign rfl) ?_
      refine d_take 17 rfl rfl (by kernel_rfl) (by kernel_rfl) (by kernel_rfl) rfl hS (v_assign rfl) ?_
      refine d_done (by kernel_rfl) ?_; clear hS
      refine n_then (x_ret (x_done (.inl rfl) (.cons (r_tmp rfl) (.cons (r_tmp rfl) .nil)) ?_))
      rw [hb]
      refine ⟨_, ⟨_, bkY rq pv dd c cb a ab who l G, rfl, rfl, (fun q => by cases q), (fun _ => ⟨rq, ab, cb, rfl, hf2, hcap.1, hcap.2, rfl⟩)⟩, ?_⟩
      simp only [bkY, List.cons_append, List.nil_append]
      exact inferInstance
structure BoR where
  m : Nat
  w : Int
  fr : List Frm
  d : Nat
  s : QS
  x : Dk
@[reducible] def bkO1 (pg : List Pl) (who : Int) (l : List Dsc) (x : Dk) (fr : List Frm) (d : Nat) : BlR := bkDo pg who (wdAt ((bkG fr pg l).take 8) 1 : Nat) (wdAt ((bkG fr pg l).take 8) 0) (lenW l true) l ((bkG fr pg l).drop 8) x fr d
@[reducible] def bkO2 (pg : List Pl) (l : List Dsc) (r : BlR) : ScS := scK r.fr pg r.d l ((lenW l true - 1 : Nat) : Int) [r.how] l.length
@[reducible] def bkO3 (pg : List Pl) (h : Nat) (l : List Dsc) (r : BlR) (s : QS) : DnR := dnX (bkO2 pg l r).2.2.1 pg (bkO2 pg l r).2.2.2 s (u32N (h : Nat)) (u32N ((r.t + 1 : Nat) : Int))
def bkOne (pg : List Pl) (who : Int) (h : Nat) (l : List Dsc) (s : QS) (x : Dk) (fr : List Frm) (d : Nat) : BoR :=
  if bkB_ fr pg l then ⟨(bkO1 pg who l x fr d).m, (bkO3 pg h l (bkO1 pg who l x fr d) s).c, (bkO3 pg h l (bkO1 pg who l x fr d) s).fr, (bkO3 pg h l (bkO1 pg who l x fr d) s).d, (bkO3 pg h l (bkO1 pg who l x fr d) s).s, (bkO1 pg who l x fr d).x⟩
  else ⟨0, 4, fr, d, bkS s 4, x⟩
theorem bkG_by {fr : List Frm} (hF : Frs fr) (pg : List Pl) (l : List Dsc) : By (bkG fr pg l) := gthK_by hF pg l 512 l.length
theorem bkG_len (fr : List Frm) (pg : List Pl) (l : List Dsc) : (bkG fr pg l).length ≤ 512 := by
  have := (gthK_len fr pg l 512 l.length).2
  unfold bkG; omega
structure BoOk (fr : List Frm) (s : QS) (o : BoR) : Prop where
  frs : Frs o.fr
  len : o.fr.length = fr.length
  d : o.d < 4096
  qs : QOk o.s
  r : o.s.r = s.r
  x : DkOk o.x
  m : o.m ≤ 512
theorem bkOne_ok {pg : List Pl} {who : Int} {h : Nat} {l : List Dsc} {s : QS} {x : Dk} {fr : List Frm} {d : Nat} (hs : QOk s) (hx : DkOk x) (hF : Frs fr) (hd : d < 4096) : BoOk fr s (bkOne pg who h l s x fr d) := by
  unfold bkOne; split
  · have g := bkG_len fr pg l
    have b := bkDo_ok (pg := pg) (who := who) (at_ := (wdAt ((bkG fr pg l).take 8) 1 : Nat)) (what := wdAt ((bkG fr pg l).take 8) 0) (room := lenW l true) (l := l) (D := (bkG fr pg l).drop 8) hx hF hd ((bkG_by hF pg l).drop 8) (by rw [List.length_drop]; omega)
    have e := scK_ok (pg := pg) (l := l) (from_ := ((lenW l true - 1 : Nat) : Int)) (bs := [(bkO1 pg who l x fr d).how]) b.frs b.d l.length
    have z := dnX_ok (pg := pg) (s := s) (h := u32N (h : Nat)) (n := u32N (((bkO1 pg who l x fr d).t + 1 : Nat) : Int)) e.frs e.d hs
    have zr := dnX_r (bkO2 pg l (bkO1 pg who l x fr d)).2.2.1 pg (bkO2 pg l (bkO1 pg who l x fr d)).2.2.2 s (u32N (h : Nat)) (u32N (((bkO1 pg who l x fr d).t + 1 : Nat) : Int))
    exact ⟨z.1, z.2.1.trans (e.len.trans b.len), z.2.2.1, z.2.2.2, zr, b.x, b.m⟩
  · exact ⟨hF, rfl, hd, bkS_ok hs 4, by unfold bkS; split <;> (try split) <;> rfl, hx, Nat.zero_le _⟩
theorem bkOne_spec (W0 : World) (R : List HP) (bq pv dd ps pm d c hd_ : Nat) (a : Option Addr) (fr : List Frm) (pg : List Pl) (h : Pgs pg) (hF : Frs fr) (hd : d < 4096) (l : List Dsc) (hl : ∀ y ∈ l, y.ok) (hn : l.length ≤ 9) (s : QS) (hs : QOk s) (x : Dk) (hx : DkOk x) (who : Int) (o : BoR) (ho : bkOne pg who hd_ l s x fr d = o) :
    Spec Tryz.prog W0 131 [.pointer (some ⟨pv, 0, none⟩), .pointer (some ⟨bq, 0, none⟩), .pointer (some ⟨dd, 0, none⟩), .int .i64 who, .int .i64 hd_, .slice a l.length c]
      (osl 99 4 (.slice a l.length c) (l.flatMap dsV) :: pt bq (qO true s) :: dkH dd x :: vwW pv ps pm d fr pg R)
      (fun v B => v = .tuple #[.int .i64 o.m, .int .i64 o.w] ∧ B = pt bq (qO true o.s) :: dkH dd o.x :: vwW pv ps pm o.d o.fr pg R) := by
  obtain ⟨G, hG⟩ : ∃ G, bkG fr pg l = G := ⟨_, rfl⟩
  have hGb : By G := by rw [← hG]; exact bkG_by hF pg l
  have hGl : G.length ≤ 512 := by rw [← hG]; exact bkG_len fr pg l
  have hX : bkB_ fr pg l = decide (8 ≤ G.length ∧ 1 ≤ lenW l true) := by rw [bkB_, hG]
  have hlw : lenW l true ≤ 38654705664 := by
    have := lenW_le hl true
    omega
  refine spec_body Tryz.func131 Tryz.ntmps131 rfl rfl ?_
  refine x_seq (x_region (s_val rfl (v_assign rfl) (s_val rfl (v_assign rfl) (x_nil (n_then (x_seq (x_region (s_val rfl (v_move rfl) (s_val rfl (v_move rfl) (s_val rfl (v_move rfl) (s_val rfl (v_move rfl) (s_do rfl (d_call4 Tryz.call212 rfl (bkAsked_spec W0 _ pv dd ps pm d c a fr pg h hF l hl hn who G hG)) ?_))))))))))))
  rintro _ B_ ⟨p, Y, rfl, hB_, hno, hye⟩
  obtain rfl := hB_.symm
  refine s_val rfl (v_move rfl) (s_val rfl (v_extract rfl rfl) (s_val rfl (v_extract rfl rfl) (s_val rfl (v_assign rfl) (s_val rfl (v_assign rfl) (x_nil (n_then (x_seq (x_seq (x_region (s_val rfl (v_move rfl) (s_val rfl (v_not rfl) (x_nil (n_then ?_)))))))))))))
  refine x_if rfl ?_ ?_
  · intro c2
    have hb : bkB_ fr pg l = false := by simpa using c2
    obtain rfl := hno hb
    simp only [List.nil_append]
    have hO : o = ⟨0, 4, fr, d, bkS s 4, x⟩ := by rw [← ho, bkOne, hb]; rfl
    subst hO
    refine x_seq (x_region (s_val rfl (v_move rfl) (s_do rfl (d_call1 Tryz.call213 rfl (qBreak_spec W0 _ bq s 4)) ?_)))
    rintro _ B_ ⟨rfl, hB_⟩
    obtain rfl := hB_.symm
    refine x_nil (n_then (x_seq (x_region (s_val rfl (v_assign rfl) (s_val rfl (v_assign rfl) (x_nil (n_then (x_ret (r_then (x_done (.inl rfl) (.cons (r_tmp rfl) (.cons (r_tmp rfl) .nil)) ?_))))))))))
    exact ⟨_, ⟨rfl, rfl⟩, inferInstance⟩
  · intro c2
    have hb : bkB_ fr pg l = true := by simpa using c2
    obtain ⟨rq, ab, cb, rfl, hf, hc1, hc2, rfl⟩ := hye hb
    simp only [List.cons_append, List.nil_append]
    have hbb : 8 ≤ G.length ∧ 1 ≤ lenW l true := by rw [hX] at hb; exact of_decide_eq_true hb
    have hw1 := wdAt_lt (hGb.take 8) 1
    obtain ⟨r, hr⟩ : ∃ r, bkDo pg who (wdAt (G.take 8) 1 : Nat) (wdAt (G.take 8) 0) (lenW l true) l (G.drop 8) x fr d = r := ⟨_, rfl⟩
    have hrk : BlOk fr r := by rw [← hr]; exact bkDo_ok hx hF hd (hGb.drop 8) (by rw [List.length_drop]; omega)
    have hO : o = ⟨r.m, (bkO3 pg hd_ l r s).c, (bkO3 pg hd_ l r s).fr, (bkO3 pg hd_ l r s).d, (bkO3 pg hd_ l r s).s, r.x⟩ := by
      rw [← ho, bkOne, if_pos hb]; unfold bkO1; rw [hG, hr]
    subst hO
    have hrm := hrk.m
    have hrt := hrk.t
    have hsc := scK_ok (pg := pg) (l := l) (from_ := ((lenW l true - 1 : Nat) : Int)) (bs := [r.how]) hrk.frs hrk.d l.length
    refine x_skip (n_then (x_seq (x_region (s_val rfl (v_move rfl) (s_do rfl (d_call1 Tryz.call214 rfl (bkDoing_spec W0 _ rq pv dd l.length c (G.length - 8) (cb - 8) (lenW l true) (wdAt (G.take 8) 0) a (sliA ab cb 8 1) who (wdAt (G.take 8) 1))) ?_)))))
    rintro _ B_ ⟨rfl, hB_⟩
    obtain rfl := hB_.symm
    refine s_val rfl (v_assign rfl) (x_nil (n_then (x_seq (x_region (s_val rfl (v_move rfl) (s_do rfl (d_callv7 (us := [.pointer (some ⟨rq, 0, none⟩)]) (cs := []) rfl (doF_call _) rfl (bkDo_spec W0 _ rq pv dd ps pm d c cb (lenW l true) (wdAt (G.take 8) 0) a ab fr pg h hF hd l hl hn x hx who (wdAt (G.take 8) 1) hw1 ⟨hbb.2, hlw⟩ G hGb ⟨hbb.1, hGl⟩ ⟨hc1, hc2⟩ hf r hr)) ?_))))))
    rintro _ B_ ⟨rfl, hB_⟩
    obtain rfl := hB_.symm
    refine s_do rfl (d_allocA Tryz.zeroValue302) ?_
    rintro _ _ ⟨bt, rfl, rfl⟩
    refine s_do0 (d_storeAll Tryz.sizeOf302 rfl rfl rfl rfl rfl) ?_
    rintro _ _ rfl
    refine x_nil (n_then (x_seq (x_region (s_val rfl (v_move rfl) (s_val rfl (v_loadAll Tryz.isAgg302 Tryz.sizeOf302 rfl rfl) ?_)))))
    refine s_do rfl (d_call5 Tryz.call215 rfl (bkEnd_spec W0 _ rq pv dd ps pm r.d c (cb - 8) (G.length - 8) (lenW l true) (wdAt (G.take 8) 0) a (sliA ab cb 8 1) r.fr pg h hrk.frs hrk.d l hl hn who (wdAt (G.take 8) 1) ⟨hbb.2, hlw⟩ r.how r.m r.t hrk.how)) ?_
    rintro _ B_ ⟨rfl, hB_⟩
    obtain rfl := hB_.symm
    refine x_nil (n_then (x_seq ?_))
    refine x_draw [(bt, 0, _)] 11 mixed rfl (sc_own sc_end) (fun hS => ?_)
    refine d_take 0 rfl rfl (by kernel_rfl) (by kernel_rfl) (by kernel_rfl) rfl hS (v_fieldAddr rfl Tryz.underlying302 rfl Tryz.sizeOf3 rfl (by first | exact Nat.zero_add _ | rfl)) ?_
    refine d_take 1 rfl rfl (by kernel_rfl) (by kernel_rfl) (by kernel_rfl) rfl hS (v_load Tryz.isAgg3 rfl (cell_sc0 (k := 0) rfl rfl)) ?_
    refine d_take 2 rfl rfl (by kernel_rfl) (by kernel_rfl) (by kernel_rfl) rfl hS (v_move rfl) ?_
    refine d_take 3 rfl rfl (by kernel_rfl) (by kernel_rfl) (by kernel_rfl) rfl hS (v_move rfl) ?_
    refine d_take 4 rfl rfl (by kernel_rfl) (by kernel_rfl) (by kernel_rfl) rfl hS (v_move rfl) ?_
    refine d_take 5 rfl rfl (by kernel_rfl) (by kernel_rfl) (by kernel_rfl) rfl hS (v_fieldAddr rfl Tryz.underlying302 rfl Tryz.sizeOf3 rfl (by first | exact Nat.zero_add _ | rfl)) ?_
    refine d_take 6 rfl rfl (by kernel_rfl) (by kernel_rfl) (by kernel_rfl) rfl hS (v_load Tryz.isAgg3 rfl (cell_sc0 (k := 0) rfl rfl)) ?_
    refine d_take 7 rfl rfl (by kernel_rfl) (by kernel_rfl) (by kernel_rfl) rfl hS (v_add rfl rfl (by rw [w64 (by omega)]; omega : IntKind.wrap .i64 ((r.t : Int) + 1) = ((r.t + 1 : Nat) : Int))) ?_
    refine d_one 8 (by kernel_rfl) rfl rfl (d_call4 Tryz.call185 rfl (qDone_spec W0 _ bq pv ps pm (bkO2 pg l r).2.2.2 (bkO2 pg l r).2.2.1 pg h hsc.frs hsc.d s hs (hd_ : Nat) ((r.t + 1 : Nat) : Int))) rfl ?_; clear hS
    rintro _ B_ ⟨rfl, hB_⟩
    obtain rfl := hB_.symm
    refine ⟨(sc_own sc_end), fun hS => ?_⟩
    refine d_take 9 rfl rfl (by kernel_rfl) (by kernel_rfl) (by kernel_rfl) rfl hS (v_assign rfl) ?_
    refine d_take 10 rfl rfl (by kernel_rfl) (by kernel_rfl) (by kernel_rfl) rfl hS (v_assign rfl) ?_
    refine d_done (by kernel_rfl) ?_; clear hS
    refine n_then (x_ret (x_done (.inl rfl) (.cons (r_tmp rfl) (.cons (r_tmp rfl) .nil)) ?_))
    exact ⟨_, ⟨rfl, rfl⟩, inferInstance⟩
end Go.Proofs.YtlnmofhehcilhaaGreat
namespace Go.Proofs.YtlnmofhehcilhaaGreat
open Go.RowKit
set_option linter.unusedSimpArgs false
set_option linter.unusedVariables false
set_option maxRecDepth 20000
structure SbS where
  fr : List Frm
  d : Nat
  s : QS
  x : Dk
  c : Nat
  n : Nat
  b : Nat
  w : Int
@[reducible] def SbS.v (x : SbS) : List Value := [.int .i64 x.c, .int .i64 x.n, .int .i64 x.b, .int .i64 x.w]
@[reducible] def sbO (pg : List Pl) (who : Int) (X : SbS) : BoR := bkOne pg who (tkR X.fr pg X.s).1 (tkR X.fr pg X.s).2.1 (tkS X.fr pg X.s) X.x X.fr X.d
def sbSt (pg : List Pl) (who : Int) (X : SbS) : Bool × SbS :=
  if (tkR X.fr pg X.s).2.2.1 then (zB (sbO pg who X).w, ⟨(sbO pg who X).fr, (sbO pg who X).d, (sbO pg who X).s, (sbO pg who X).x, X.c + 1, X.n + (tkR X.fr pg X.s).2.1.length, X.b + (sbO pg who X).m, (sbO pg who X).w⟩)
  else (false, { X with s := tkS X.fr pg X.s, w := (tkR X.fr pg X.s).2.2.2 })
theorem sbSt_eq (pg : List Pl) (who : Int) (X : SbS) : sbSt pg who X = if (tkR X.fr pg X.s).2.2.1 then (zB (sbO pg who X).w, ⟨(sbO pg who X).fr, (sbO pg who X).d, (sbO pg who X).s, (sbO pg who X).x, X.c + 1, X.n + (tkR X.fr pg X.s).2.1.length, X.b + (sbO pg who X).m, (sbO pg who X).w⟩)
  else (false, { X with s := tkS X.fr pg X.s, w := (tkR X.fr pg X.s).2.2.2 }) := rfl
def sbGo (pg : List Pl) (who : Int) : Nat → SbS → SbS
  | 0, x => x
  | k + 1, x => if (sbSt pg who x).1 then sbGo pg who k (sbSt pg who x).2 else (sbSt pg who x).2
theorem sbGo_stop {pg : List Pl} {who : Int} {k : Nat} {x : SbS} (hk : 0 < k) (h : (sbSt pg who x).1 = false) : sbGo pg who k x = (sbSt pg who x).2 := by
  obtain ⟨j, rfl⟩ : ∃ j, k = j + 1 := ⟨k - 1, by omega⟩
  rw [sbGo, h]; rfl
theorem sbGo_go {pg : List Pl} {who : Int} {k : Nat} {x : SbS} (hk : 0 < k) (h : (sbSt pg who x).1 = true) : sbGo pg who k x = sbGo pg who (k - 1) (sbSt pg who x).2 := by
  obtain ⟨j, rfl⟩ : ∃ j, k = j + 1 := ⟨k - 1, by omega⟩
  rw [sbGo, h]; rfl
structure SbOk (len : Nat) (r : Rg3) (X : SbS) : Prop where
  frs : Frs X.fr
  len : X.fr.length = len
  d : X.d < 4096
  qs : QOk X.s
  r : X.s.r = r
  x : DkOk X.x
theorem sbSt_ok {pg : List Pl} {who : Int} {len : Nat} {r : Rg3} {X : SbS} (h : SbOk len r X) : SbOk len r (sbSt pg who X).2 ∧ (sbSt pg who X).2.c ≤ X.c + 1 ∧ (sbSt pg who X).2.n ≤ X.n + 9 ∧ (sbSt pg who X).2.b ≤ X.b + 512 := by
  have ht := tkR_ok h.frs pg X.s
  have hy := bkOne_ok (pg := pg) (who := who) (h := (tkR X.fr pg X.s).1) (l := (tkR X.fr pg X.s).2.1) (tkS_ok (fr := X.fr) (pg := pg) h.qs) h.x h.frs h.d
  have hr := tkS_r X.fr pg X.s
  unfold sbSt; split
  · exact ⟨⟨hy.frs, hy.len.trans h.len, hy.d, hy.qs, hy.r.trans (hr.trans h.r), hy.x⟩, Nat.le_refl _, Nat.add_le_add_left ht.2 _, Nat.add_le_add_left hy.m _⟩
  · exact ⟨⟨h.frs, h.len, h.d, tkS_ok h.qs, hr.trans h.r, h.x⟩, Nat.le_succ _, Nat.le_add_right _ _, Nat.le_add_right _ _⟩
theorem bkServe_spec (W0 : World) (R : List HP) (bq pv dd ps_ pm : Nat) (pg : List Pl) (h : Pgs pg) (who : Int)
    (fr : List Frm) (d : Nat) (sd sa su n last put : Nat) (on : Bool) (br : Int) (x : Dk) (hn : n ≤ 8) (hr : Rg3.ok ⟨sd, sa, su, n⟩) (len : Nat) (hx : SbOk len ⟨sd, sa, su, n⟩ ⟨fr, d, ⟨⟨sd, sa, su, n⟩, on, br, last, put⟩, x, 0, 0, 0, 0⟩) :
    Spec Tryz.prog W0 45 [.pointer (some ⟨pv, 0, none⟩), .pointer (some ⟨bq, 0, none⟩), .pointer (some ⟨dd, 0, none⟩), .int .i64 who]
      (pt bq (qO true ⟨⟨sd, sa, su, n⟩, on, br, last, put⟩) :: dkH dd x :: vwW pv ps_ pm d fr pg R)
      (fun v B => ∃ y, y = sbGo pg who n ⟨fr, d, ⟨⟨sd, sa, su, n⟩, on, br, last, put⟩, x, 0, 0, 0, 0⟩ ∧ v = .agg (SbS.v y).toArray ∧ B = pt bq (qO true y.s) :: dkH dd y.x :: vwW pv ps_ pm y.d y.fr pg R) := by
  obtain ⟨x0, hx0⟩ : ∃ x0 : SbS, x0 = ⟨fr, d, ⟨⟨sd, sa, su, n⟩, on, br, last, put⟩, x, 0, 0, 0, 0⟩ := ⟨_, rfl⟩
  rw [← hx0] at hx ⊢
  refine spec_body Tryz.func45 Tryz.ntmps45 rfl rfl ?_
  refine x_seq (x_region (s_do rfl (d_allocA Tryz.zeroValue67) ?_))
  rintro _ _ ⟨b8, rfl, rfl⟩
  refine x_nil (n_then (x_seq (x_region (s_do rfl (d_allocA Tryz.zeroValue67) ?_))))
  rintro _ _ ⟨b9, rfl, rfl⟩
  refine x_nil (n_then (x_seq (x_seq (x_region (s_val rfl (v_move rfl) (s_do rfl (d_call1 Tryz.call34 rfl (qState_spec W0 _ bq ⟨⟨sd, sa, su, n⟩, on, br, last, put⟩)) ?_))))))
  rintro _ B_ ⟨rfl, hB_⟩
  obtain rfl := hB_.symm
  refine s_val rfl (v_fieldA rfl Tryz.underlying73 rfl Tryz.isAgg71 Tryz.sizeOf71 TakeL.eq) ?_
  refine s_val rfl (v_fieldV rfl Tryz.underlying71 rfl Tryz.isAgg3 rfl) ?_
  refine s_val rfl (v_move rfl) (x_nil (n_then (x_block ?_)))
  refine x_loop (fun X : Nat × SbS => X.1 ≤ n ∧ sbGo pg who (n - X.1) X.2 = sbGo pg who n x0 ∧ SbOk len ⟨sd, sa, su, n⟩ X.2 ∧ X.2.c ≤ X.1 ∧ X.2.n ≤ 9 * X.1 ∧ X.2.b ≤ 512 * X.1 ∧ X.2.w = 0) (fun X => [(0, .pointer (some ⟨pv, 0, none⟩)), (1, .pointer (some ⟨bq, 0, none⟩)), (2, .pointer (some ⟨dd, 0, none⟩)), (3, .int .i64 who), (8, .pointer (some ⟨b8, 0, none⟩)), (9, .pointer (some ⟨b9, 0, none⟩)), (18, .int .i64 n), (19, .int .i64 X.1)]) (fun X => pt b8 (cob [.int .i64 0, .int .i64 0, .int .i64 0, .int .i64 0] 67) :: pt b9 (cob X.2.v 67) :: pt bq (qO true X.2.s) :: dkH dd X.2.x :: vwW pv ps_ pm X.2.d X.2.fr pg R) (fun X => n - X.1) (0, x0) ?_ ?_ ?_ ?_
  · exact ⟨Nat.zero_le _, rfl, hx, by subst hx0; exact Nat.le_refl _, by subst hx0; exact Nat.le_refl _, by subst hx0; exact Nat.le_refl _, by subst hx0; rfl⟩
  · repeat (first | exact sub_nil | refine sub_cons rfl ?_)
  · subst hx0; exact inferInstance
  · intro ⟨i, X⟩ ⟨hi, hgo, hok, hc, hnn, hb, hwx⟩
    dsimp only at hi hgo hok hc hnn hb hwx ⊢
    obtain ⟨fx, dx, sx, px, cx, nx, bx, wx⟩ := X
    obtain ⟨hF, hlen, hd, hs, hsr, hps⟩ := hok
    dsimp only at hF hlen hd hs hsr hps hc hnn hb hwx ⊢
    subst hwx
    refine x_seq (x_region (s_val rfl (v_lss rfl rfl) (x_nil (n_then (x_seq ?_)))))
    refine x_if rfl ?_ ?_
    · intro c3
      refine x_skip (n_then (x_seq (x_block (x_seq ?_))))
      obtain ⟨hl9, hl8⟩ := tkR_ok hF pg sx
      have hst1 := sbSt_eq pg who ⟨fx, dx, sx, px, cx, nx, bx, 0⟩
      have hokn := sbSt_ok (pg := pg) (who := who) (X := ⟨fx, dx, sx, px, cx, nx, bx, 0⟩) (len := len) (r := ⟨sd, sa, su, n⟩) ⟨hF, hlen, hd, hs, hsr, hps⟩
      dsimp only [sbO] at hst1
      refine x_region (s_val rfl (v_move rfl) (s_val rfl (v_move rfl) ?_))
      refine s_do rfl (d_call4 Tryz.call130 rfl (qTake_spec W0 _ bq pv ps_ pm dx fx pg h hF sx hs (by rw [hsr]; exact hr))) ?_
      rintro _ B_ ⟨a, c, rfl, hB_⟩
      obtain rfl := hB_.symm
      obtain ⟨r, hr⟩ : ∃ r, tkR fx pg sx = r := ⟨_, rfl⟩
      rw [hr] at hl9 hl8 hst1 ⊢
      refine s_val rfl (v_move rfl) (s_val rfl (v_extract rfl rfl) (s_val rfl (v_extract rfl rfl) (s_val rfl (v_extract rfl rfl) (s_val rfl (v_extract rfl rfl) (s_val rfl (v_assign rfl) (s_val rfl (v_assign rfl) (s_val rfl (v_assign rfl) (s_val rfl (v_assign rfl) (x_nil (n_then (x_seq (x_seq (x_region (s_val rfl (v_move rfl) (s_val rfl (v_not rfl) (x_nil (n_then ?_)))))))))))))))))
      refine x_if rfl ?_ ?_
      · intro c5
        have ht : ¬ r.2.2.1 = true := by simpa using c5
        rw [if_neg ht] at hst1
        rw [sbGo_stop (by omega) (by rw [hst1]), hst1] at hgo
        refine x_seq (x_region (s_val rfl (v_move rfl) ?_))
        refine s_val rfl (v_fieldAddr rfl Tryz.underlying67 rfl Tryz.sizeOf3 rfl (by first | exact Nat.zero_add _ | rfl)) ?_
        refine s_do0 (d_store Tryz.sizeOf3 rfl rfl rfl (Nat.le_of_ble_eq_true rfl) SetL.eq) ?_
        rintro _ _ rfl
        refine x_nil (n_then (x_seq (x_region (s_val rfl (v_loadAll Tryz.isAgg67 Tryz.sizeOf67 rfl rfl) ?_))))
        refine s_do0 (d_storeAll Tryz.sizeOf67 rfl rfl rfl rfl rfl) ?_
        rintro _ _ rfl
        refine x_nil (n_then (x_ret (r_then (r_block (r_then (r_then (r_block (r_then (x_done (.inl rfl) (.cons (r_all Tryz.isAgg67 Tryz.sizeOf67 rfl rfl) .nil) ?_)))))))))
        exact ⟨_, ⟨_, hgo, rfl, rfl⟩, inferInstance⟩
      · intro c5
        have ht : r.2.2.1 = true := by simpa using c5
        rw [if_pos ht] at hst1
        obtain ⟨o, ho⟩ : ∃ o, bkOne pg who r.1 r.2.1 (tkS fx pg sx) px fx dx = o := ⟨_, rfl⟩
        have hdo := bkOne_ok (pg := pg) (who := who) (h := r.1) (l := r.2.1) (tkS_ok (fr := fx) (pg := pg) hs) hps hF hd
        rw [ho] at hst1 hdo
        have hom := hdo.m
        refine x_skip (n_then (x_seq (x_region ?_)))
        refine s_val rfl (v_fieldAddr rfl Tryz.underlying67 rfl Tryz.sizeOf3 rfl (by first | exact Nat.zero_add _ | rfl)) ?_
        refine s_val rfl (v_load Tryz.isAgg3 rfl (cell_own rfl)) ?_
        refine s_val rfl (v_add rfl rfl (by rw [w64 (by omega)]; omega : IntKind.wrap .i64 ((cx : Int) + 1) = ((cx + 1 : Nat) : Int))) ?_
        refine s_val rfl (v_fieldAddr rfl Tryz.underlying67 rfl Tryz.sizeOf3 rfl (by first | exact Nat.zero_add _ | rfl)) ?_
        refine s_do0 (d_store Tryz.sizeOf3 rfl rfl rfl (Nat.le_of_ble_eq_true rfl) SetL.eq) ?_
        rintro _ _ rfl
        refine x_nil (n_then (x_seq (x_region ?_)))
        refine s_val rfl (v_fieldAddr rfl Tryz.underlying67 rfl Tryz.sizeOf3 rfl (by first | exact Nat.zero_add _ | rfl)) ?_
        refine s_val rfl (v_load Tryz.isAgg3 rfl (cell_own rfl)) ?_
        refine s_val rfl (v_move rfl) (s_val rfl (v_len_slice Tryz.underlying43 rfl) ?_)
        refine s_val rfl (v_add rfl rfl (by rw [w64 (by omega)]; omega : IntKind.wrap .i64 ((nx : Int) + (r.2.1.length : Int)) = ((nx + r.2.1.length : Nat) : Int))) ?_
        refine s_val rfl (v_fieldAddr rfl Tryz.underlying67 rfl Tryz.sizeOf3 rfl (by first | exact Nat.zero_add _ | rfl)) ?_
        refine s_do0 (d_store Tryz.sizeOf3 rfl rfl rfl (Nat.le_of_ble_eq_true rfl) SetL.eq) ?_
        rintro _ _ rfl
        refine x_nil (n_then (x_seq (x_region (s_val rfl (v_move rfl) (s_val rfl (v_move rfl) (s_val rfl (v_move rfl) (s_val rfl (v_move rfl) (s_val rfl (v_move rfl) (s_val rfl (v_move rfl) (s_do rfl (d_call6 Tryz.call131 rfl (bkOne_spec W0 _ bq pv dd ps_ pm dx c r.1 a fx pg h hF hd r.2.1 hl9 hl8 (tkS fx pg sx) (tkS_ok hs) px hps who o ho)) ?_))))))))))
        rintro _ B_ ⟨rfl, hB_⟩
        obtain rfl := hB_.symm
        refine s_val rfl (v_move rfl) (s_val rfl (v_extract rfl rfl) (s_val rfl (v_extract rfl rfl) (s_val rfl (v_assign rfl) (s_val rfl (v_assign rfl) (x_nil (n_then (x_seq (x_region ?_))))))))
        refine s_val rfl (v_fieldAddr rfl Tryz.underlying67 rfl Tryz.sizeOf3 rfl (by first | exact Nat.zero_add _ | rfl)) ?_
        refine s_val rfl (v_load Tryz.isAgg3 rfl (cell_own rfl)) ?_
        refine s_val rfl (v_move rfl) ?_
        refine s_val rfl (v_add rfl rfl (by rw [w64 (by omega)]; omega : IntKind.wrap .i64 ((bx : Int) + (o.m : Int)) = ((bx + o.m : Nat) : Int))) ?_
        refine s_val rfl (v_fieldAddr rfl Tryz.underlying67 rfl Tryz.sizeOf3 rfl (by first | exact Nat.zero_add _ | rfl)) ?_
        refine s_do0 (d_store Tryz.sizeOf3 rfl rfl rfl (Nat.le_of_ble_eq_true rfl) SetL.eq) ?_
        rintro _ _ rfl
        refine x_nil (n_then (x_seq (x_region (s_val rfl (v_move rfl) (s_val rfl (v_neq rfl rfl) (x_nil (n_then ?_)))))))
        refine x_if rfl ?_ ?_
        · intro c12
          have hzc : zB o.w = false := decide_eq_false c12
          rw [hzc] at hst1
          rw [sbGo_stop (by omega) (by rw [hst1]), hst1] at hgo
          refine x_seq (x_region (s_val rfl (v_move rfl) ?_))
          refine s_val rfl (v_fieldAddr rfl Tryz.underlying67 rfl Tryz.sizeOf3 rfl (by first | exact Nat.zero_add _ | rfl)) ?_
          refine s_do0 (d_store Tryz.sizeOf3 rfl rfl rfl (Nat.le_of_ble_eq_true rfl) SetL.eq) ?_
          rintro _ _ rfl
          refine x_nil (n_then (x_seq (x_region (s_val rfl (v_loadAll Tryz.isAgg67 Tryz.sizeOf67 rfl rfl) ?_))))
          refine s_do0 (d_storeAll Tryz.sizeOf67 rfl rfl rfl rfl rfl) ?_
          rintro _ _ rfl
          refine x_nil (n_then (x_ret (r_block (r_then (r_then (r_block (r_then (x_done (.inl rfl) (.cons (r_all Tryz.isAgg67 Tryz.sizeOf67 rfl rfl) .nil) ?_))))))))
          exact ⟨_, ⟨_, hgo, rfl, rfl⟩, inferInstance⟩
        · intro c12
          have hzc : zB o.w = true := decide_eq_true (Decidable.not_not.1 c12)
          have hw0 : o.w = 0 := Decidable.not_not.1 c12
          rw [hzc, hw0] at hst1
          rw [sbGo_go (by omega) (by rw [hst1]), hst1] at hgo
          rw [hst1] at hokn
          refine x_skip (n_block (n_then (x_region ?_)))
          refine s_val rfl (v_add rfl rfl (by first | exact w64 (by omega) | rfl)) ?_
          refine s_val rfl (v_move rfl) (x_nil (n_then ?_))
          refine inv_intro (i + 1, ⟨o.fr, o.d, o.s, o.x, cx + 1, nx + r.2.1.length, bx + o.m, 0⟩) ?_ ?_ ?_ ?_
          · refine ⟨by omega, ?_, hokn.1, by show cx + 1 ≤ i + 1; omega, by show nx + r.2.1.length ≤ 9 * (i + 1); omega, by show bx + o.m ≤ 512 * (i + 1); omega, rfl⟩
            rw [show n - (i + 1) = n - i - 1 by omega]; exact hgo
          · omega
          · repeat (first | exact sub_nil | refine sub_cons rfl ?_)
          · exact inferInstance
    · intro c3
      refine x_exit (e_then (e_then (e_block (n_then (x_seq (x_region (s_val rfl (v_loadAll Tryz.isAgg67 Tryz.sizeOf67 rfl rfl) ?_)))))))
      refine s_do0 (d_storeAll Tryz.sizeOf67 rfl rfl rfl rfl rfl) ?_
      rintro _ _ rfl
      refine x_nil (n_then (x_ret (x_done (.inl rfl) (.cons (r_all Tryz.isAgg67 Tryz.sizeOf67 rfl rfl) .nil) ?_)))
      have h0 : n - i = 0 := by omega
      rw [h0] at hgo
      have hgo0 : (⟨fx, dx, sx, px, cx, nx, bx, 0⟩ : SbS) = sbGo pg who n x0 := hgo
      exact ⟨_, ⟨_, hgo0, rfl, rfl⟩, inferInstance⟩
def rgnV (x : Rn) : List Value := [.int .i64 x.1, .int .i64 x.2.1, .int .i64 x.2.2]
def dnK (rs : List Rn) : Nat → Option (List Rn × List Int)
  | 0 => some ([], [])
  | k + 1 => (dnK rs k).bind fun y => if isL (rs.getD k (0, 0, 0)).1 = true ∧ gvE y.1 32 (rs.getD k (0, 0, 0)).2.1 (rs.getD k (0, 0, 0)).2.2 k = 0 then some (gvR y.1 32 (rs.getD k (0, 0, 0)).2.1 (rs.getD k (0, 0, 0)).2.2 k, y.2 ++ [(rs.getD k (0, 0, 0)).1]) else none
def dkNew (rs : List Rn) : Option Dk := if 8 < rs.length then none else (dnK rs rs.length).map fun y => ⟨y.1, y.2, List.replicate 32 z16⟩
theorem dnK_stop {rs : List Rn} {i : Nat} (h : dnK rs i = none) : ∀ {k : Nat}, i ≤ k → dnK rs k = none := by
  intro k hk
  induction k with
  | zero => rwa [show i = 0 by omega] at h
  | succ k ih =>
    rcases Nat.lt_or_ge i (k + 1) with q | q
    · rw [dnK, ih (by omega)]; rfl
    · rwa [show i = k + 1 by omega] at h
theorem gvR_who {rs : List Rn} {n f k w m : Int} (h : ∀ x ∈ rs, 0 ≤ x.2.2 ∧ x.2.2 < m) (hm : 0 ≤ w ∧ w ≤ m) : ∀ x ∈ gvR rs n f k w, 0 ≤ x.2.2 ∧ x.2.2 < m + 1 := by
  unfold gvR; split
  · intro x hx
    rw [rnIns] at hx
    rcases List.mem_append.1 hx with q | q
    · have := h x (List.mem_of_mem_take q); omega
    · rcases List.mem_cons.1 q with rfl | q
      · show 0 ≤ w ∧ w < m + 1; omega
      · have := h x (List.mem_of_mem_drop q); omega
  · intro x hx
    have := h x hx; omega
structure DnOk (k : Nat) (y : List Rn × List Int) : Prop where
  tb : TbOk y.1
  rl : y.1.length ≤ k
  ll : y.2.length = k
  wh : ∀ x ∈ y.1, 0 ≤ x.2.2 ∧ x.2.2 < (k : Int)
theorem dnK_ok (rs : List Rn) : ∀ {k : Nat} {y : List Rn × List Int}, dnK rs k = some y → DnOk k y
  | 0, y, h => by cases h; exact ⟨fun x hx => by simp at hx, Nat.le_refl _, rfl, fun x hx => by simp at hx⟩
  | k + 1, y, h => by
    rw [dnK] at h
    cases e : dnK rs k with
    | none => rw [e] at h; cases h
    | some z =>
      rw [e] at h
      obtain ⟨h1, h2, h3, h4⟩ := dnK_ok rs e
      have h' : (if isL (rs.getD k (0, 0, 0)).1 = true ∧ gvE z.1 32 (rs.getD k (0, 0, 0)).2.1 (rs.getD k (0, 0, 0)).2.2 k = 0 then some (gvR z.1 32 (rs.getD k (0, 0, 0)).2.1 (rs.getD k (0, 0, 0)).2.2 k, z.2 ++ [(rs.getD k (0, 0, 0)).1]) else none) = some y := h
      split at h'
      · cases h'
        refine ⟨gvR_ok h1 (by decide), Nat.le_trans gvR_len (by omega), by rw [List.length_append, h3]; rfl, fun x hx => ?_⟩
        have := gvR_who h4 (by omega) x hx
        omega
      · cases h'
theorem whF_mem {rs : List Rn} {i w : Int} (h : whF rs i = some w) : ∃ x ∈ rs, x.2.2 = w := by
  induction rs with
  | nil => cases h
  | cons y l ih =>
    rw [whF] at h
    split at h
    · cases h; exact ⟨y, by simp, rfl⟩
    · obtain ⟨x, hx, e⟩ := ih h
      exact ⟨x, by simp [hx], e⟩
theorem dkNew_ok {rs : List Rn} {x : Dk} (h : dkNew rs = some x) : DkOk x := by
  unfold dkNew at h
  split at h
  · cases h
  · rename_i hl
    cases e : dnK rs rs.length with
    | none => rw [e] at h; cases h
    | some y =>
      rw [e] at h; cases h
      obtain ⟨h1, h2, h3, h4⟩ := dnK_ok rs e
      refine ⟨h1, by show y.1.length ≤ 8; omega, by show y.2.length ≤ 8; omega, fun i w hw => ?_, rfl, fun b hb => ?_⟩
      · obtain ⟨z, hz, rfl⟩ := whF_mem hw
        have := h4 z hz
        show 0 ≤ z.2.2 ∧ z.2.2 < y.2.length
        rw [h3]; exact this
      · rw [List.eq_of_mem_replicate hb]; exact z16_ok
theorem dkF_zero : dkF (List.replicate 32 z16) = fun _ => none := by
  funext k
  unfold dkF secD
  have e : (List.replicate 32 z16).getD k.toNat z16 = z16 := by
    simp only [List.getD, List.getElem?_replicate]
    split <;> rfl
  rw [e, if_pos rfl]; simp
theorem dkNew_spec (W0 : World) (R : List HP) (a : Option Addr) (c : Nat) (rs : List Rn) (hs : SlA (OwnP W0 R) a 3 rgnV rs) (hl : rs.length < 9223372036854775808) :
    Spec Tryz.prog W0 43 [.slice a rs.length c] R
      (fun v B => ∃ p Y, v = .tuple #[.pointer p, .int .i64 (if (dkNew rs).isSome then 0 else 14)] ∧ B = Y ++ R ∧ (dkNew rs = none → p = none ∧ Y = []) ∧ (∀ x, dkNew rs = some x → ∃ d, p = some ⟨d, 0, none⟩ ∧ Y = [dkH d x])) := by
  have hno : ∀ {p : Option Addr} {Y : List HP} (h : dkNew rs = none), p = none → Y = [] → (dkNew rs = none → p = none ∧ Y = []) ∧ (∀ x, dkNew rs = some x → ∃ d, p = some ⟨d, 0, none⟩ ∧ Y = [dkH d x]) := fun h h1 h2 => ⟨fun _ => ⟨h1, h2⟩, fun x hx => by rw [h] at hx; cases hx⟩
  refine spec_body Tryz.func43 Tryz.ntmps43 rfl rfl ?_
  refine x_seq (x_region (s_val rfl (v_assign rfl) (s_val rfl (v_assign rfl) (x_nil (n_then (x_seq (x_seq (x_region (s_val rfl (v_move rfl) (s_val rfl (v_len_slice Tryz.underlying23 rfl) (s_val rfl (v_gtr rfl rfl) (x_nil (n_then ?_)))))))))))))
  refine x_if rfl ?_ ?_
  · intro c1
    refine x_seq (x_region (s_val rfl (v_assign rfl) (s_val rfl (v_assign rfl) (x_nil (n_then (x_ret (r_then (x_done (.inl rfl) (.cons (r_tmp rfl) (.cons (r_tmp rfl) .nil)) ?_))))))))
    have hN : dkNew rs = none := by rw [dkNew, if_pos (by omega)]
    rw [hN]
    refine ⟨_, ⟨none, [], rfl, rfl, hno hN rfl rfl |>.1 |> fun q => (fun _ => ⟨rfl, rfl⟩), (fun x hx => by cases hx)⟩, ?_⟩
    simp only [List.nil_append]
    exact inferInstance
  · intro c1
    refine x_skip (n_then (x_seq ?_))
    have h8 : rs.length ≤ 8 := by omega
    have hD : dkNew rs = (dnK rs rs.length).map fun y => ⟨y.1, y.2, List.replicate 32 z16⟩ := by rw [dkNew, if_neg (by omega)]
    refine x_region ?_
    refine s_do rfl (d_call Tryz.call127 rfl (paNew_spec W0 _ 32 (by decide))) ?_
    rintro _ B_ ⟨bt, rfl, hB_⟩
    obtain rfl := hB_.symm
    refine s_val rfl (v_move rfl) (s_val rfl (v_extract rfl rfl) (s_val rfl (v_extract rfl rfl) (s_val rfl (v_assign rfl) (s_val rfl (v_assign rfl) (x_nil (n_then (x_seq (x_region (s_val rfl (v_move rfl) (s_do rfl (d_makeMap) ?_))))))))))
    rintro _ _ ⟨bm, rfl, rfl⟩
    refine s_val rfl (v_build Tryz.underlying217 Tryz.zeroValue217 (sized_cons Tryz.sizeOf212 (sized_cons Tryz.sizeOf38 (sized_cons Tryz.sizeOf215 sized_nil))) (fil_scal rfl Tryz.sizeOf212 rfl rfl (Nat.le_of_ble_eq_true rfl) SetL.eq (fil_scal rfl Tryz.sizeOf215 rfl rfl (Nat.le_of_ble_eq_true rfl) SetL.eq fil_nil))) ?_
    refine s_do rfl (d_boxA rfl) ?_
    rintro _ _ ⟨d, rfl, rfl⟩
    refine s_val rfl (v_assign rfl) (x_nil (n_then (x_seq (x_seq (x_region (s_val rfl (v_move rfl) (s_val rfl (v_len_slice Tryz.underlying23 rfl) (s_val rfl (v_move rfl) (x_nil (n_then (x_block ?_)))))))))))
    refine x_loop (fun X : Nat × List Rn × List Int × Option Addr × Nat => X.1 ≤ rs.length ∧ dnK rs X.1 = some (X.2.1, X.2.2.1)) (fun X => [(4, .pointer (some ⟨bt, 0, none⟩)), (6, .pointer (some ⟨d, 0, none⟩)), (20, .slice a rs.length c), (21, .int .i64 rs.length), (22, .int .i64 X.1)]) (fun X => pt d (dkO bt bm X.2.2.2.1 X.2.2.1.length X.2.2.2.2) :: tabH bt (X.2.1, 32) :: osl 3 1 (.slice X.2.2.2.1 X.2.2.1.length X.2.2.2.2) (X.2.2.1.flatMap inI) :: mapH bm (fun _ => none) :: R) (fun X => rs.length - X.1) (0, [], [], none, 0) ?_ ?_ ?_ ?_
    · exact ⟨Nat.zero_le _, rfl⟩
    · repeat (first | exact sub_nil | refine sub_cons rfl ?_)
    · show Ent _ (pt d (dkO bt bm none 0 0) :: tabH bt ([], 32) :: osl 3 1 (.slice none 0 0) [] :: mapH bm (fun _ => none) :: R)
      exact (ent_osl_nil (E := 3) (sz := 1) (k := ent_refl)).trans inferInstance
    · intro ⟨k, t, lb, aL, cL⟩ ⟨hk, hdn⟩
      dsimp only at hk hdn ⊢
      obtain ⟨h1, h2, h3, h4⟩ := dnK_ok rs hdn
      dsimp only at h1 h2 h3 h4
      refine x_seq (x_region (s_val rfl (v_lss rfl rfl) (x_nil (n_then (x_seq ?_)))))
      refine x_if rfl ?_ ?_
      · intro c6
        refine x_skip (n_then (x_seq (x_block (x_seq ?_))))
        have hk1 : k < rs.length := by omega
        obtain ⟨g, o, rfl, hc⟩ := hs.at_ hk1
        have hgk : rs.getD k (0, 0, 0) = rs[k] := by simp [List.getD, hk1]
        obtain ⟨x, hx⟩ : ∃ x, rs[k] = x := ⟨_, rfl⟩
        rw [hx] at hc hgk
        have hst : dnK rs (k + 1) = if isL x.1 = true ∧ gvE t 32 x.2.1 x.2.2 k = 0 then some (gvR t 32 x.2.1 x.2.2 k, lb ++ [x.1]) else none := by
          rw [dnK, hdn, hgk]; rfl
        refine x_region (s_val rfl (v_move rfl) ?_)
        refine s_val rfl (v_idx Tryz.underlying23 Tryz.sizeOf97 rfl rfl rfl hk1 (by first | exact Nat.zero_add _ | rfl)) ?_
        refine s_val rfl (v_loadAgg Tryz.isAgg97 Tryz.sizeOf97 rfl hc.weak rfl) ?_
        refine s_do rfl (d_allocA Tryz.zeroValue97) ?_
        rintro _ _ ⟨br, rfl, rfl⟩
        refine s_val rfl (v_assign rfl) (s_do0 (d_storeAll Tryz.sizeOf97 rfl rfl rfl rfl rfl) ?_)
        rintro _ _ rfl
        refine x_nil (n_then (x_seq (x_seq (x_region ?_))))
        refine s_val rfl (v_fieldAddr rfl Tryz.underlying97 rfl Tryz.sizeOf3 rfl (by first | exact Nat.zero_add _ | rfl)) ?_
        refine s_val rfl (v_load Tryz.isAgg3 rfl (cell_own rfl)) ?_
        refine s_do rfl (d_call Tryz.call95 rfl (lbCount_spec W0 _ x.1)) ?_
        rintro _ B_ ⟨m, rfl, hm, hB_⟩
        obtain rfl := hB_.symm
        refine s_val rfl (v_lss rfl rfl) (s_val rfl (v_move rfl) ?_)
        refine s_or rfl rfl rfl ?_ ?_
        · intro g8_5
          refine s_no rfl rfl rfl rfl (s_no rfl rfl rfl rfl (s_no rfl rfl rfl rfl (s_no rfl rfl rfl rfl (s_no rfl rfl rfl rfl (s_no rfl rfl rfl rfl (s_no rfl rfl rfl rfl (s_val rfl (v_pick_t rfl rfl) (x_nil (n_then (x_ift rfl (x_seq (x_region (s_val rfl (v_assign rfl) (s_val rfl (v_assign rfl) (x_nil (n_then (x_ret (r_then (r_block (r_then (r_then (r_block (r_then ?_)))))))))))))))))))))))
          refine x_done (.inl rfl) (.cons (r_tmp rfl) (.cons (r_tmp rfl) .nil)) ?_
          have hS : dnK rs (k + 1) = none := by
            rw [hst, if_neg]
            rintro ⟨q1, q2⟩
            first
              | exact absurd q2 c8
              | (rw [q1] at hm; simp at hm; omega)
          have hN : dkNew rs = none := by rw [hD, dnK_stop hS hk1]; rfl
          rw [hN]
          refine ⟨_, ⟨none, [], rfl, rfl, (fun _ => ⟨rfl, rfl⟩), (fun x hx => by cases hx)⟩, ?_⟩
          simp only [List.nil_append]
          exact inferInstance
        · intro g8_5
          refine s_val rfl (v_move rfl) (s_yes rfl rfl ?_)
          refine s_val rfl (v_fieldAddr rfl Tryz.underlying97 rfl Tryz.sizeOf3 rfl (by first | exact Nat.zero_add _ | rfl)) ?_
          refine s_yes rfl rfl (s_val rfl (v_load Tryz.isAgg3 rfl (cell_own rfl)) ?_)
          refine s_yes rfl rfl ?_
          refine s_val rfl (v_fieldAddr rfl Tryz.underlying97 rfl Tryz.sizeOf3 rfl (by first | exact Nat.zero_add _ | rfl)) ?_
          refine s_yes rfl rfl (s_val rfl (v_load Tryz.isAgg3 rfl (cell_own rfl)) ?_)
          refine s_yes rfl rfl (s_val rfl (v_move rfl) (s_yes rfl rfl ?_))
          refine s_do rfl (d_call1 Tryz.call128 rfl (paGive_spec W0 _ bt t 32 (by decide) h1 (by omega) x.2.1 x.2.2 k)) ?_
          rintro _ B_ ⟨rfl, hB_⟩
          obtain rfl := hB_.symm
          refine s_yes rfl rfl (s_val rfl (v_neq rfl rfl) (s_val rfl (v_pick_f rfl rfl) (x_nil (n_then ?_))))
          refine x_if rfl ?_ ?_
          · intro c8
            refine x_seq (x_region (s_val rfl (v_assign rfl) (s_val rfl (v_assign rfl) (x_nil (n_then (x_ret (r_then (r_block (r_then (r_then (r_block (r_then (x_done (.inl rfl) (.cons (r_tmp rfl) (.cons (r_tmp rfl) .nil)) ?_)))))))))))))
            have hS : dnK rs (k + 1) = none := by
              rw [hst, if_neg]
              rintro ⟨q1, q2⟩
              first
                | exact absurd q2 c8
                | (rw [q1] at hm; simp at hm; omega)
            have hN : dkNew rs = none := by rw [hD, dnK_stop hS hk1]; rfl
            rw [hN]
            refine ⟨_, ⟨none, [], rfl, rfl, (fun _ => ⟨rfl, rfl⟩), (fun x hx => by cases hx)⟩, ?_⟩
            simp only [List.nil_append]
            exact inferInstance
          · intro c8
            refine x_skip (n_then ?_)
            have hgo : isL x.1 = true ∧ gvE t 32 x.2.1 x.2.2 k = 0 := by
              refine ⟨?_, by first | exact Decidable.not_not.1 c8 | simpa using c8⟩
              rw [← Bool.not_eq_false]; intro q
              rw [q] at hm; simp at hm; omega
            rw [if_pos hgo] at hst
            refine x_draw [(br, 0, _)] 12 mixed rfl (sc_own sc_end) (fun hS => ?_)
            refine d_take 0 rfl rfl (by kernel_rfl) (by kernel_rfl) (by kernel_rfl) rfl hS (v_move rfl) ?_
            refine d_take 1 rfl rfl (by kernel_rfl) (by kernel_rfl) (by kernel_rfl) rfl hS (v_move rfl) ?_
            refine d_take 2 rfl rfl (by kernel_rfl) (by kernel_rfl) (by kernel_rfl) rfl hS (v_nilCheck rfl) ?_
            refine d_take 3 rfl rfl (by kernel_rfl) (by kernel_rfl) (by kernel_rfl) rfl hS (v_fieldAddr rfl Tryz.underlying217 rfl Tryz.sizeOf38 rfl (by first | exact Nat.zero_add _ | rfl)) ?_
            refine d_take 5 rfl rfl (by kernel_rfl) (by kernel_rfl) (by kernel_rfl) rfl hS (v_fieldAddr rfl Tryz.underlying97 rfl Tryz.sizeOf3 rfl (by first | exact Nat.zero_add _ | rfl)) ?_
            refine d_take 6 rfl rfl (by kernel_rfl) (by kernel_rfl) (by kernel_rfl) rfl hS (v_load Tryz.isAgg3 rfl (cell_sc0 (k := 0) rfl rfl)) ?_
            refine d_all (is := [4, 7]) (by kernel_rfl) rfl ⟨?_, ?_, trivial⟩
            · skip
              refine dx_one rfl rfl (d_val (v_load Tryz.isAgg38 rfl (cell_own rfl))) rfl ?_; clear hS
              rintro _ _ ⟨rfl, rfl⟩
              refine ⟨(sc_own sc_end), fun hS => ?_⟩
              refine d_one 7 (by kernel_rfl) rfl rfl (d_sliceLit Tryz.underlying38 Tryz.sizeOf3 Tryz.zeroValue3 rfl rfl rfl rfl rfl (by decide) (by decide)) rfl ?_; clear hS
              rintro _ _ ⟨b4, rfl, rfl⟩
              refine ⟨(sc_own sc_end), fun hS => ?_⟩
              refine d_one 8 (by kernel_rfl) rfl rfl (d_append (sz := 1) (by_ := 8) (info := Tryz.t3) Tryz.underlying38 (by kernel_rfl) rfl rfl rfl rfl (by decide) rfl rfl cells_all rfl rfl (by simp only [maxLen]; omega) (by omega)) rfl ?_; clear hS
              rintro _ _ ⟨aN, cN, rfl, rfl⟩
              refine ⟨(sc_own sc_end), fun hS => ?_⟩
              refine d_take 9 rfl rfl (by kernel_rfl) (by kernel_rfl) (by kernel_rfl) rfl hS (v_nilCheck rfl) ?_
              refine d_take 10 rfl rfl (by kernel_rfl) (by kernel_rfl) (by kernel_rfl) rfl hS (v_fieldAddr rfl Tryz.underlying217 rfl Tryz.sizeOf38 rfl (by first | exact Nat.zero_add _ | rfl)) ?_
              refine d_one 11 (by kernel_rfl) rfl rfl (d_store Tryz.sizeOf38 rfl rfl rfl (Nat.le_of_ble_eq_true rfl) SetL.eq) rfl ?_; clear hS
              rintro _ _ rfl
              refine ⟨(sc_own sc_end), fun hS => ?_⟩
              refine d_done (by kernel_rfl) ?_; clear hS
              refine n_block (n_then (x_region ?_))
              refine s_val rfl (v_add rfl rfl (by first | exact w64 (by omega) | rfl)) ?_
              refine s_val rfl (v_move rfl) (x_nil (n_then ?_))
              refine inv_intro (k + 1, gvR t 32 x.2.1 x.2.2 k, lb ++ [x.1], aN, cN) ?_ ?_ ?_ ?_
              · exact ⟨by omega, hst⟩
              · omega
              · repeat (first | exact sub_nil | refine sub_cons rfl ?_)
              · dsimp only
                rw [show (lb ++ [x.1]).length = lb.length + 1 from List.length_append .., show (lb ++ [x.1]).flatMap inI = lb.flatMap inI ++ [Value.int .i64 x.1] by rw [List.flatMap_append]; rfl]
                exact inferInstance
            · skip
              refine dx_one rfl rfl (d_sliceLit Tryz.underlying38 Tryz.sizeOf3 Tryz.zeroValue3 rfl rfl rfl rfl rfl (by decide) (by decide)) rfl ?_; clear hS
              rintro _ _ ⟨b4, rfl, rfl⟩
              refine ⟨(sc_own sc_end), fun hS => ?_⟩
              refine d_one 4 (by kernel_rfl) rfl rfl (d_val (v_load Tryz.isAgg38 rfl (cell_own rfl))) rfl ?_; clear hS
              rintro _ _ ⟨rfl, rfl⟩
              refine ⟨(sc_own sc_end), fun hS => ?_⟩
              refine d_one 8 (by kernel_rfl) rfl rfl (d_append (sz := 1) (by_ := 8) (info := Tryz.t3) Tryz.underlying38 (by kernel_rfl) rfl rfl rfl rfl (by decide) rfl rfl cells_all rfl rfl (by simp only [maxLen]; omega) (by omega)) rfl ?_; clear hS
              rintro _ _ ⟨aN, cN, rfl, rfl⟩
              refine ⟨(sc_own sc_end), fun hS => ?_⟩
              refine d_take 9 rfl rfl (by kernel_rfl) (by kernel_rfl) (by kernel_rfl) rfl hS (v_nilCheck rfl) ?_
              refine d_take 10 rfl rfl (by kernel_rfl) (by kernel_rfl) (by kernel_rfl) rfl hS (v_fieldAddr rfl Tryz.underlying217 rfl Tryz.sizeOf38 rfl (by first | exact Nat.zero_add _ | rfl)) ?_
              refine d_one 11 (by kernel_rfl) rfl rfl (d_store Tryz.sizeOf38 rfl rfl rfl (Nat.le_of_ble_eq_true rfl) SetL.eq) rfl ?_; clear hS
              rintro _ _ rfl
              refine ⟨(sc_own sc_end), fun hS => ?_⟩
              refine d_done (by kernel_rfl) ?_; clear hS
              refine n_block (n_then (x_region ?_))
              refine s_val rfl (v_add rfl rfl (by first | exact w64 (by omega) | rfl)) ?_
              refine s_val rfl (v_move rfl) (x_nil (n_then ?_))
              refine inv_intro (k + 1, gvR t 32 x.2.1 x.2.2 k, lb ++ [x.1], aN, cN) ?_ ?_ ?_ ?_
              · exact ⟨by omega, hst⟩
              · omega
              · repeat (first | exact sub_nil | refine sub_cons rfl ?_)
              · dsimp only
                rw [show (lb ++ [x.1]).length = lb.length + 1 from List.length_append .., show (lb ++ [x.1]).flatMap inI = lb.flatMap inI ++ [Value.int .i64 x.1] by rw [List.flatMap_append]; rfl]
                exact inferInstance
      · intro c6
        refine x_exit (e_then (e_then (e_block (n_then (x_seq (x_region (s_val rfl (v_move rfl) (s_val rfl (v_assign rfl) (s_val rfl (v_assign rfl) (x_nil (n_then (x_ret (x_done (.inl rfl) (.cons (r_tmp rfl) (.cons (r_tmp rfl) .nil)) ?_)))))))))))))
        obtain rfl : k = rs.length := by omega
        have hN : dkNew rs = some ⟨t, lb, List.replicate 32 z16⟩ := by rw [hD, hdn]; rfl
        rw [hN]
        refine ⟨_, ⟨_, [dkH d ⟨t, lb, List.replicate 32 z16⟩], rfl, rfl, (fun q => by cases q), (fun x hx => by cases hx; exact ⟨d, rfl, rfl⟩)⟩, ?_⟩
        simp only [List.cons_append, List.nil_append]
        exact ent_dk (x := ⟨t, lb, List.replicate 32 z16⟩) rfl rfl dkF_zero.symm rfl
end Go.Proofs.YtlnmofhehcilhaaGreat
namespace Go.Proofs.YtlnmofhehcilhaaGreat
open Go.RowKit
set_option linter.unusedSimpArgs false
set_option linter.unusedVariables false
set_option maxRecDepth 20000
theorem lies25_spec (W0 : World) (R : List HP) : Spec Tryz.prog W0 129 [] R (fun v B => v = .agg (rgV ⟨0, 128, 192, ((4 : Nat) : Int)⟩).toArray ∧ B = R) := by
  refine spec_body Tryz.func129 Tryz.ntmps129 rfl rfl ?_
  refine x_seq (x_region (s_do rfl (d_allocA Tryz.zeroValue71) ?_))
  rintro _ _ ⟨b1, rfl, rfl⟩
  refine x_nil (n_then (x_seq (x_region (s_val rfl (v_build Tryz.underlying71 Tryz.zeroValue71 (sized_cons Tryz.sizeOf47 (sized_cons Tryz.sizeOf47 (sized_cons Tryz.sizeOf47 (sized_cons Tryz.sizeOf3 sized_nil)))) (fil_scal rfl Tryz.sizeOf47 rfl rfl (Nat.le_of_ble_eq_true rfl) SetL.eq (fil_scal rfl Tryz.sizeOf47 rfl rfl (Nat.le_of_ble_eq_true rfl) SetL.eq (fil_scal rfl Tryz.sizeOf47 rfl rfl (Nat.le_of_ble_eq_true rfl) SetL.eq (fil_scal rfl Tryz.sizeOf3 rfl rfl (Nat.le_of_ble_eq_true rfl) SetL.eq fil_nil))))) ?_))))
  refine s_do0 (d_storeAll Tryz.sizeOf71 rfl rfl rfl rfl rfl) ?_
  rintro _ _ rfl
  refine x_nil (n_then (x_ret (x_done (.inl rfl) (.cons (r_all Tryz.isAgg71 Tryz.sizeOf71 rfl rfl) .nil) ?_)))
  exact ⟨_, ⟨rfl, rfl⟩, inferInstance⟩
theorem made25_spec (W0 : World) (R : List HP) (g : Gst) (hg : GOk (OwnP W0 R) g) (hfit : fitB 8 (pg23 8) ⟨0, 128, 192, ((4 : Nat) : Int)⟩ = true) :
    Spec Tryz.prog W0 44 [.agg (gstV g).toArray] R
      (fun v B => ∃ pv ps pm qv qs qm bq br, v = .tuple #[.pointer (some ⟨pv, 0, none⟩), .pointer (some ⟨bq, 0, none⟩), .pointer (some ⟨qv, 0, none⟩), .pointer (some ⟨br, 0, none⟩)] ∧
        B = pt bq (qO true q27) :: pt br (rqO q27) :: prH pv ps pm qv qs qm (mk27 g).2 (mk27 g).1 (pg23 8) R) := by
  obtain ⟨al, cl, L, ah, ch, H, aa, ca, A, ab, cb, B, p⟩ := g
  obtain ⟨hgl, hglo, hgh, hgho, hga, hgao, hgb, hgbo, hgp, hgn1, hgn2, hgn3, hgn4⟩ := hg
  dsimp only at hgl hglo hgh hgho hga hgao hgb hgbo hgp hgn1 hgn2 hgn3 hgn4
  obtain ⟨g, hg0⟩ : ∃ g, g = (⟨al, cl, L, ah, ch, H, aa, ca, A, ab, cb, B, p⟩ : Gst) := ⟨_, rfl⟩
  dsimp only [gstV]
  rw [← hg0]
  have hgA : g.A = A := by rw [hg0]
  have hgB : g.B = B := by rw [hg0]
  have hgL : g.L = L := by rw [hg0]
  have hgH : g.H = H := by rw [hg0]
  have hgP : g.p = p := by rw [hg0]
  refine spec_body Tryz.func44 Tryz.ntmps44 rfl rfl ?_
  refine x_seq (x_region (s_do rfl (d_boxA rfl) ?_))
  rintro _ _ ⟨b1, rfl, rfl⟩
  refine s_val rfl (v_assign rfl) (s_val rfl (v_assign rfl) (s_val rfl (v_assign rfl) (s_val rfl (v_assign rfl) (x_nil (n_then (x_seq (x_region ?_)))))))
  refine s_do rfl (d_call Tryz.call82 rfl (frNew_spec W0 _ 8 (by decide))) ?_
  rintro _ B_ ⟨ps, rfl, hB_⟩
  obtain rfl := hB_.symm
  refine s_val rfl (v_move rfl) (s_val rfl (v_extract rfl rfl) (s_val rfl (v_extract rfl rfl) (s_val rfl (v_assign rfl) (s_val rfl (v_assign rfl) (x_nil (n_then (x_seq (x_region (s_do rfl (d_call Tryz.call83 rfl (gmNew_spec W0 _)) ?_)))))))))
  rintro _ B_ ⟨pm, rfl, hB_⟩
  obtain rfl := hB_.symm
  refine s_val rfl (v_assign rfl) (x_nil (n_then (x_seq (x_region ?_))))
  refine s_do rfl (d_call Tryz.call84 rfl (rfNew_spec W0 _ 8 (by decide))) ?_
  rintro _ B_ ⟨qs, rfl, hB_⟩
  obtain rfl := hB_.symm
  refine s_val rfl (v_move rfl) (s_val rfl (v_extract rfl rfl) (s_val rfl (v_extract rfl rfl) (s_val rfl (v_assign rfl) (s_val rfl (v_assign rfl) (x_nil (n_then (x_seq (x_region (s_val rfl (v_build Tryz.underlying156 Tryz.zeroValue156 (sized_cons Tryz.sizeOf85 (sized_cons Tryz.sizeOf154 sized_nil)) fil_nil) ?_)))))))))
  refine s_do rfl (d_boxA rfl) ?_
  rintro _ _ ⟨qm, rfl, rfl⟩
  refine s_val rfl (v_assign rfl) (x_nil (n_then (x_seq (x_seq (run_pt (b := qm) (o' := rgO (List.replicate 12 (0, 0))) rfl ?_)))))
  refine x_region (s_val rfl (v_assign rfl) (x_nil (n_then (x_block ?_))))
  refine x_loop (fun i : Nat => i ≤ 8) (fun i => [(1, .pointer (some ⟨b1, 0, none⟩)), (6, .pointer (some ⟨ps, 0, none⟩)), (8, .pointer (some ⟨pm, 0, none⟩)), (9, .pointer (some ⟨qs, 0, none⟩)), (11, .pointer (some ⟨qm, 0, none⟩)), (12, .int .i64 i)]) (fun i => pt b1 (cob [.slice al L.length cl, .slice ah H.length ch, .slice aa A.length ca, .slice ab B.length cb, .int .u32 p] 100) :: pt qm (rgO (pg23 i)) :: rstoH qs (List.replicate 8 zeros) :: pt pm (gmO (pg23 i)) :: stoH ps (List.replicate 8 zeros) :: R) (fun i => 8 - i) 0 ?_ ?_ ?_ ?_
  · exact Nat.zero_le _
  · repeat (first | exact sub_nil | refine sub_cons rfl ?_)
  · simp only [pg23]; exact inferInstance
  · intro i hi
    have hP := pg23_ok i
    refine x_seq (x_seq (x_region (s_val rfl (v_move rfl) (s_val rfl (v_lss rfl rfl) (x_nil (n_then ?_))))))
    refine x_if rfl ?_ ?_
    · intro c6
      refine x_skip (n_then (x_seq (x_block (x_seq (x_region (s_val rfl (v_move rfl) (s_val rfl (v_move rfl) (s_val rfl (v_move rfl) (s_val rfl (v_build Tryz.underlying153 Tryz.zeroValue153 (sized_cons Tryz.sizeOf3 (sized_cons Tryz.sizeOf3 sized_nil)) (fil_scal rfl Tryz.sizeOf3 rfl rfl (Nat.le_of_ble_eq_true rfl) SetL.eq (fil_scal rfl Tryz.sizeOf3 rfl rfl (Nat.le_of_ble_eq_true rfl) SetL.eq fil_nil))) ?_)))))))))
      refine s_do rfl (d_call1 Tryz.call85 rfl (gmSet_spec W0 _ pm _ hP i ((i : Int), 3))) ?_
      rintro _ B_ ⟨rfl, hB_⟩
      obtain rfl := hB_.symm
      refine x_nil (n_then (x_region (s_val rfl (v_move rfl) (s_val rfl (v_move rfl) (s_val rfl (v_move rfl) (s_val rfl (v_build Tryz.underlying153 Tryz.zeroValue153 (sized_cons Tryz.sizeOf3 (sized_cons Tryz.sizeOf3 sized_nil)) (fil_scal rfl Tryz.sizeOf3 rfl rfl (Nat.le_of_ble_eq_true rfl) SetL.eq (fil_scal rfl Tryz.sizeOf3 rfl rfl (Nat.le_of_ble_eq_true rfl) SetL.eq fil_nil))) ?_))))))
      refine s_do rfl (d_call1 Tryz.call86 rfl (rgSet_spec W0 _ qm _ hP i ((i : Int), 3))) ?_
      rintro _ B_ ⟨rfl, hB_⟩
      obtain rfl := hB_.symm
      refine x_nil (n_block (n_then (x_region (s_val rfl (v_move rfl) ?_))))
      refine s_val rfl (v_add rfl rfl (by first | exact w64 (by omega) | rfl)) ?_
      refine s_val rfl (v_assign rfl) (x_nil (n_then ?_))
      refine inv_intro (i + 1) ?_ ?_ ?_ ?_
      · omega
      · omega
      · repeat (first | exact sub_nil | refine sub_cons rfl ?_)
      · simp only [pg23]; exact inferInstance
    · intro c6
      refine x_exit (e_then (e_then (e_block (n_then (x_seq ?_)))))
      obtain rfl : i = 8 := by omega
      have hP := pg23_ok 8
      rw [show mk27 g = mgP (pg23 8) g from rfl]
      obtain ⟨pg, hpg⟩ : ∃ x, pg23 8 = x := ⟨_, rfl⟩
      rw [hpg] at hP hfit ⊢
      refine x_region (s_val rfl (v_move rfl) (s_val rfl (v_move rfl) ?_))
      refine s_do rfl (d_call2 Tryz.call87 rfl (viNew_spec W0 _ ps pm _ _ hP (by decide))) ?_
      rintro _ B_ ⟨pv, rfl, hB_⟩
      obtain rfl := hB_.symm
      refine s_val rfl (v_move rfl) (s_val rfl (v_extract rfl rfl) (s_val rfl (v_extract rfl rfl) (s_val rfl (v_assign rfl) (s_val rfl (v_assign rfl) (x_nil (n_then (x_seq (x_seq (x_region (s_val rfl (v_move rfl) (s_val rfl (v_neq rfl rfl) (x_nil (n_then ?_)))))))))))))
      refine x_if rfl ?_ ?_
      · intro c11
        exact absurd rfl c11
      · intro c11
        refine x_skip (n_then (x_seq (x_region (s_val rfl (v_move rfl) (s_val rfl (v_move rfl) (s_val rfl (v_build Tryz.underlying87 Tryz.zeroValue87 (sized_cons Tryz.sizeOf83 (sized_cons Tryz.sizeOf84 (sized_cons Tryz.sizeOf85 sized_nil))) (fil_scal rfl Tryz.sizeOf83 rfl rfl (Nat.le_of_ble_eq_true rfl) SetL.eq (fil_scal rfl Tryz.sizeOf84 rfl rfl (Nat.le_of_ble_eq_true rfl) SetL.eq fil_nil))) ?_))))))
        refine s_do rfl (d_boxA rfl) ?_
        rintro _ _ ⟨qv, rfl, rfl⟩
        refine s_val rfl (v_assign rfl) (x_nil (n_then ?_))
        refine x_cut (fun _ : Unit => True) (fun _ => [(1, .pointer (some ⟨b1, 0, none⟩)), (13, .pointer (some ⟨pv, 0, none⟩)), (15, .pointer (some ⟨qv, 0, none⟩))]) (fun _ => pt b1 (cob [.slice al L.length cl, .slice ah H.length ch, .slice aa A.length ca, .slice ab B.length cb, .int .u32 p] 100) :: prH pv ps pm qv qs qm (mgD pg g 0).2 (mgD pg g 0).1 pg R) ?_ ?_
        · skip
          refine x_seq (run_pt (b := qv) (o' := rvO qs qm 0) rfl ?_)
          refine x_region (s_val rfl (v_assign rfl) (x_nil (n_then (x_block ?_))))
          refine x_loop (fun i : Nat => i ≤ mgN g) (fun i => [(1, .pointer (some ⟨b1, 0, none⟩)), (13, .pointer (some ⟨pv, 0, none⟩)), (15, .pointer (some ⟨qv, 0, none⟩)), (16, .int .i64 i)]) (fun i => pt b1 (cob [.slice al L.length cl, .slice ah H.length ch, .slice aa A.length ca, .slice ab B.length cb, .int .u32 p] 100) :: prH pv ps pm qv qs qm (mgA pg g i).2 (mgA pg g i).1 pg R) (fun i => 20 - i) 0 ?_ ?_ ?_ ?_
          · exact Nat.zero_le _
          · repeat (first | exact sub_nil | refine sub_cons rfl ?_)
          · simp only [mgA]; exact inferInstance
          · intro i hi
            obtain ⟨hF, hFl, hFd⟩ := mgA_ok pg g i
            rw [mgN, hgA, hgB] at hi
            refine x_seq (x_seq (x_region (s_val rfl (v_move rfl) ?_)))
            refine s_val rfl (v_fieldAddr rfl Tryz.underlying100 rfl Tryz.sizeOf46 rfl (by first | exact Nat.zero_add _ | rfl)) ?_
            refine s_val rfl (v_load Tryz.isAgg46 rfl (cell_own rfl)) ?_
            refine s_val rfl (v_len_slice Tryz.underlying46 rfl) (s_val rfl (v_lss rfl rfl) (s_val rfl (v_move rfl) ?_))
            refine s_and rfl rfl rfl ?_ ?_
            · intro g15_6
              refine s_val rfl (v_move rfl) (s_yes rfl rfl ?_)
              refine s_val rfl (v_fieldAddr rfl Tryz.underlying100 rfl Tryz.sizeOf45 rfl (by first | exact Nat.zero_add _ | rfl)) ?_
              refine s_yes rfl rfl (s_val rfl (v_load Tryz.isAgg45 rfl (cell_own rfl)) ?_)
              refine s_yes rfl rfl (s_val rfl (v_len_slice Tryz.underlying45 rfl) (s_yes rfl rfl (s_val rfl (v_lss rfl rfl) (s_val rfl (v_pick_t rfl rfl) (s_val rfl (v_move rfl) ?_)))))
              refine s_and rfl rfl rfl ?_ ?_
              · intro g15_13
                refine s_val rfl (v_move rfl) (s_yes rfl rfl (s_val rfl (v_lss rfl rfl) (s_val rfl (v_pick_t rfl rfl) (x_nil (n_then ?_)))))
                refine x_if rfl ?_ ?_
                · intro c15
                  refine x_skip (n_then (x_seq (x_block (x_seq ?_))))
                  have hia : i < A.length := by omega
                  have hib : i < B.length := by omega
                  obtain ⟨ga, oa, rfl, hca⟩ := hga.at_ hia
                  obtain ⟨gb, ob, rfl, hcb⟩ := hgb.at_ hib
                  have hai := hgao _ (List.getElem_mem hia)
                  obtain ⟨hb1, hb2, hb3⟩ := hgbo _ (List.getElem_mem hib)
                  have hsA : mgA pg g (i + 1) = (wrF (mgA pg g i).1 pg A[i] B[i].2.2, wrE (mgA pg g i).1 pg A[i] (mgA pg g i).2 B[i].2.2.length) := by rw [mgA, hgA, hgB]; simp [List.getD, hia, hib]
                  refine x_draw [(b1, 0, _), (ga, oa + i * 1, [wV A[i]]), (gb, ob + i * 1, btV B[i])] 12 mixed rfl (sc_own (sc_cons hca.weak (sc_cons hcb.weak sc_end))) (fun hS => ?_)
                  refine d_take 0 rfl rfl (by kernel_rfl) (by kernel_rfl) (by kernel_rfl) rfl hS (v_move rfl) ?_
                  refine d_take 1 rfl rfl (by kernel_rfl) (by kernel_rfl) (by kernel_rfl) rfl hS (v_fieldAddr rfl Tryz.underlying100 rfl Tryz.sizeOf45 rfl (by first | exact Nat.zero_add _ | rfl)) ?_
                  refine d_take 2 rfl rfl (by kernel_rfl) (by kernel_rfl) (by kernel_rfl) rfl hS (v_load Tryz.isAgg45 rfl (by first | exact cell_sc0 (k := 0) rfl rfl | exact cell_sc0 (k := 1) rfl rfl | exact cell_sc0 (k := 2) rfl rfl)) ?_
                  refine d_take 3 rfl rfl (by kernel_rfl) (by kernel_rfl) (by kernel_rfl) rfl hS (v_move rfl) ?_
                  refine d_take 4 rfl rfl (by kernel_rfl) (by kernel_rfl) (by kernel_rfl) rfl hS (v_idx Tryz.underlying45 Tryz.sizeOf47 rfl rfl rfl hia (by first | exact Nat.zero_add _ | rfl)) ?_
                  refine d_take 5 rfl rfl (by kernel_rfl) (by kernel_rfl) (by kernel_rfl) rfl hS (v_load Tryz.isAgg47 rfl (cell_sc1 (k := 1) rfl)) ?_
                  refine d_take 6 rfl rfl (by kernel_rfl) (by kernel_rfl) (by kernel_rfl) rfl hS (v_fieldAddr rfl Tryz.underlying100 rfl Tryz.sizeOf46 rfl (by first | exact Nat.zero_add _ | rfl)) ?_
                  refine d_take 7 rfl rfl (by kernel_rfl) (by kernel_rfl) (by kernel_rfl) rfl hS (v_load Tryz.isAgg46 rfl (by first | exact cell_sc0 (k := 0) rfl rfl | exact cell_sc0 (k := 1) rfl rfl | exact cell_sc0 (k := 2) rfl rfl)) ?_
                  refine d_take 8 rfl rfl (by kernel_rfl) (by kernel_rfl) (by kernel_rfl) rfl hS (v_move rfl) ?_
                  refine d_take 9 rfl rfl (by kernel_rfl) (by kernel_rfl) (by kernel_rfl) rfl hS (v_idx Tryz.underlying46 Tryz.sizeOf44 rfl rfl rfl hib (by first | exact Nat.zero_add _ | rfl)) ?_
                  refine d_take 10 rfl rfl (by kernel_rfl) (by kernel_rfl) (by kernel_rfl) rfl hS (v_load Tryz.isAgg44 rfl (cell_sc1 (k := 2) rfl)) ?_
                  refine d_one 11 (by kernel_rfl) rfl rfl (d_call3 Tryz.call88 rfl (viWrite_spec W0 _ pv ps pm _ _ _ _ pg hP hF hFd A[i] hai B[i].2.2 hb2 hb1.weak hb3)) rfl ?_; clear hS
                  rintro _ B_ ⟨rfl, hB_⟩
                  obtain rfl := hB_.symm
                  refine ⟨(sc_own (sc_cons hca.weak (sc_cons hcb.weak sc_end))), fun hS => ?_⟩
                  refine d_done (by kernel_rfl) ?_; clear hS
                  refine n_then ?_
                  refine x_draw [(b1, 0, _), (ga, oa + i * 1, [wV A[i]]), (gb, ob + i * 1, btV B[i])] 12 mixed rfl (sc_own (sc_cons hca.weak (sc_cons hcb.weak sc_end))) (fun hS => ?_)
                  refine d_take 0 rfl rfl (by kernel_rfl) (by kernel_rfl) (by kernel_rfl) rfl hS (v_move rfl) ?_
                  refine d_take 1 rfl rfl (by kernel_rfl) (by kernel_rfl) (by kernel_rfl) rfl hS (v_fieldAddr rfl Tryz.underlying100 rfl Tryz.sizeOf45 rfl (by first | exact Nat.zero_add _ | rfl)) ?_
                  refine d_take 2 rfl rfl (by kernel_rfl) (by kernel_rfl) (by kernel_rfl) rfl hS (v_load Tryz.isAgg45 rfl (by first | exact cell_sc0 (k := 0) rfl rfl | exact cell_sc0 (k := 1) rfl rfl | exact cell_sc0 (k := 2) rfl rfl)) ?_
                  refine d_take 3 rfl rfl (by kernel_rfl) (by kernel_rfl) (by kernel_rfl) rfl hS (v_move rfl) ?_
                  refine d_take 4 rfl rfl (by kernel_rfl) (by kernel_rfl) (by kernel_rfl) rfl hS (v_idx Tryz.underlying45 Tryz.sizeOf47 rfl rfl rfl hia (by first | exact Nat.zero_add _ | rfl)) ?_
                  refine d_take 5 rfl rfl (by kernel_rfl) (by kernel_rfl) (by kernel_rfl) rfl hS (v_load Tryz.isAgg47 rfl (cell_sc1 (k := 1) rfl)) ?_
                  refine d_take 6 rfl rfl (by kernel_rfl) (by kernel_rfl) (by kernel_rfl) rfl hS (v_fieldAddr rfl Tryz.underlying100 rfl Tryz.sizeOf46 rfl (by first | exact Nat.zero_add _ | rfl)) ?_
                  refine d_take 7 rfl rfl (by kernel_rfl) (by kernel_rfl) (by kernel_rfl) rfl hS (v_load Tryz.isAgg46 rfl (by first | exact cell_sc0 (k := 0) rfl rfl | exact cell_sc0 (k := 1) rfl rfl | exact cell_sc0 (k := 2) rfl rfl)) ?_
                  refine d_take 8 rfl rfl (by kernel_rfl) (by kernel_rfl) (by kernel_rfl) rfl hS (v_move rfl) ?_
                  refine d_take 9 rfl rfl (by kernel_rfl) (by kernel_rfl) (by kernel_rfl) rfl hS (v_idx Tryz.underlying46 Tryz.sizeOf44 rfl rfl rfl hib (by first | exact Nat.zero_add _ | rfl)) ?_
                  refine d_take 10 rfl rfl (by kernel_rfl) (by kernel_rfl) (by kernel_rfl) rfl hS (v_load Tryz.isAgg44 rfl (cell_sc1 (k := 2) rfl)) ?_
                  refine d_one 11 (by kernel_rfl) rfl rfl (d_call3 Tryz.call89 rfl (rvWrite_spec W0 _ qv qs qm _ _ _ _ pg hP hF A[i] hai B[i].2.2 hb2 hb1.weak hb3)) rfl ?_; clear hS
                  rintro _ B_ ⟨rfl, hB_⟩
                  obtain rfl := hB_.symm
                  refine ⟨(sc_own (sc_cons hca.weak (sc_cons hcb.weak sc_end))), fun hS => ?_⟩
                  refine d_done (by kernel_rfl) ?_; clear hS
                  refine n_block (n_then (x_region (s_val rfl (v_move rfl) ?_)))
                  refine s_val rfl (v_add rfl rfl (by first | exact w64 (by omega) | rfl)) ?_
                  refine s_val rfl (v_assign rfl) (x_nil (n_then ?_))
                  refine inv_intro (i + 1) ?_ ?_ ?_ ?_
                  · show i + 1 ≤ mgN g
                    rw [mgN, hgA, hgB]; omega
                  · omega
                  · repeat (first | exact sub_nil | refine sub_cons rfl ?_)
                  · simp only [hsA]; exact inferInstance
                · intro c15
                  refine x_exit (e_then (e_then (e_block (n_then ?_))))
                  refine mid_intro () ?_ ?_ ?_
                  · trivial
                  · repeat (first | exact sub_nil | refine sub_cons rfl ?_)
                  · obtain rfl : i = mgN g := by rw [mgN, hgA, hgB]; omega
                    simp only [mgD]; exact inferInstance
              · intro g15_13
                refine s_no rfl rfl rfl rfl (s_val rfl (v_pick_f rfl rfl) (x_nil (n_then (x_iff rfl (x_exit (e_then (e_then (e_block (n_then ?_)))))))))
                refine mid_intro () ?_ ?_ ?_
                · trivial
                · repeat (first | exact sub_nil | refine sub_cons rfl ?_)
                · obtain rfl : i = mgN g := by rw [mgN, hgA, hgB]; omega
                  simp only [mgD]; exact inferInstance
            · intro g15_6
              refine s_no rfl rfl rfl rfl (s_no rfl rfl rfl rfl (s_no rfl rfl rfl rfl (s_no rfl rfl rfl rfl (s_val rfl (v_pick_f rfl rfl) (s_val rfl (v_move rfl) (s_no rfl rfl rfl rfl (s_no rfl rfl rfl rfl (s_val rfl (v_pick_f rfl rfl) (x_nil (n_then (x_iff rfl (x_exit (e_then (e_then (e_block (n_then ?_))))))))))))))))
              refine mid_intro () ?_ ?_ ?_
              · trivial
              · repeat (first | exact sub_nil | refine sub_cons rfl ?_)
              · obtain rfl : i = mgN g := by rw [mgN, hgA, hgB]; omega
                simp only [mgD]; exact inferInstance
        · intro _ _
          refine x_cut (fun _ : Unit => True) (fun _ => [(1, .pointer (some ⟨b1, 0, none⟩)), (13, .pointer (some ⟨pv, 0, none⟩)), (15, .pointer (some ⟨qv, 0, none⟩))]) (fun _ => pt b1 (cob [.slice al L.length cl, .slice ah H.length ch, .slice aa A.length ca, .slice ab B.length cb, .int .u32 p] 100) :: prH pv ps pm qv qs qm (mgH pg g 0).2 (mgH pg g 0).1 pg R) ?_ ?_
          · skip
            refine x_seq (x_region (s_val rfl (v_assign rfl) (x_nil (n_then (x_block ?_)))))
            refine x_loop (fun i : Nat => i ≤ min L.length 8) (fun i => [(1, .pointer (some ⟨b1, 0, none⟩)), (13, .pointer (some ⟨pv, 0, none⟩)), (15, .pointer (some ⟨qv, 0, none⟩)), (17, .int .i64 i)]) (fun i => pt b1 (cob [.slice al L.length cl, .slice ah H.length ch, .slice aa A.length ca, .slice ab B.length cb, .int .u32 p] 100) :: prH pv ps pm qv qs qm (mgD pg g i).2 (mgD pg g i).1 pg R) (fun i => 8 - i) 0 ?_ ?_ ?_ ?_
            · exact Nat.zero_le _
            · repeat (first | exact sub_nil | refine sub_cons rfl ?_)
            · exact inferInstance
            · intro i hi
              obtain ⟨hF, hFl, hFd⟩ := mgD_ok pg g i
              refine x_seq (x_seq (x_region (s_val rfl (v_move rfl) ?_)))
              refine s_val rfl (v_fieldAddr rfl Tryz.underlying100 rfl Tryz.sizeOf43 rfl (by first | exact Nat.zero_add _ | rfl)) ?_
              refine s_val rfl (v_load Tryz.isAgg43 rfl (cell_own rfl)) ?_
              refine s_val rfl (v_len_slice Tryz.underlying43 rfl) (s_val rfl (v_lss rfl rfl) (s_val rfl (v_move rfl) ?_))
              refine s_and rfl rfl rfl ?_ ?_
              · intro g20_6
                refine s_val rfl (v_move rfl) (s_yes rfl rfl (s_val rfl (v_lss rfl rfl) (s_val rfl (v_pick_t rfl rfl) (x_nil (n_then ?_)))))
                refine x_if rfl ?_ ?_
                · intro c20
                  refine x_skip (n_then (x_seq (x_block (x_seq ?_))))
                  have hi1 : i < L.length := by omega
                  obtain ⟨gl, ol, rfl, hcl⟩ := hgl.at_ hi1
                  have hdi := hglo _ (List.getElem_mem hi1)
                  have hsD : mgD pg g (i + 1) = (wrF (mgD pg g i).1 pg (16 * i) (putD L[i]), wrE (mgD pg g i).1 pg (16 * i) (mgD pg g i).2 16) := by rw [mgD, hgL]; simp [List.getD, hi1]
                  refine x_region ?_
                  refine s_val rfl (v_fieldAddr rfl Tryz.underlying100 rfl Tryz.sizeOf43 rfl (by first | exact Nat.zero_add _ | rfl)) ?_
                  refine s_val rfl (v_load Tryz.isAgg43 rfl (cell_own rfl)) ?_
                  refine s_val rfl (v_move rfl) ?_
                  refine s_val rfl (v_idx Tryz.underlying43 Tryz.sizeOf99 rfl rfl rfl hi1 (by first | exact Nat.zero_add _ | rfl)) ?_
                  refine s_val rfl (v_loadAgg Tryz.isAgg99 Tryz.sizeOf99 rfl hcl.weak rfl) ?_
                  refine s_do rfl (d_call Tryz.call90 rfl (dsPut_spec W0 _ L[i] hdi)) ?_
                  rintro _ B_ ⟨a', c', rfl, hB_⟩
                  obtain rfl := hB_.symm
                  refine run_form (E := 5) (sz := 1) (a := a') (c := c') (n := 16) (fun hf => ?_)
                  refine s_val rfl (v_assign rfl) (x_nil (n_then (x_seq (x_region (s_val rfl (v_move rfl) (s_val rfl (v_move rfl) ?_))))))
                  refine s_val rfl (v_mul rfl rfl (by rw [w64 (by omega)]; omega : IntKind.wrap .i64 (16 * (i : Int)) = ((16 * i : Nat) : Int))) ?_
                  refine s_val rfl (v_conv Tryz.underlying3 Tryz.underlying47 rfl (w32u (by omega))) ?_
                  refine s_val rfl (v_move rfl) ?_
                  refine s_do rfl (d_call3 Tryz.call88 rfl (viWriteN_spec W0 _ pv ps pm _ c' 16 a' _ pg hP hF hFd (16 * i) (by omega) (putD L[i]) (putD_len _) (bytesL_by _) (sla_cells hf (cells_osl (E := 5) (sz := 1) (a := a') (c := c') (n := 16)) (fun _ => rfl) (byV_fm _).symm (by decide)) (by decide))) ?_
                  rintro _ B_ ⟨rfl, hB_⟩
                  obtain rfl := hB_.symm
                  refine x_nil (n_then (x_region (s_val rfl (v_move rfl) (s_val rfl (v_move rfl) ?_))))
                  refine s_val rfl (v_mul rfl rfl (by rw [w64 (by omega)]; omega : IntKind.wrap .i64 (16 * (i : Int)) = ((16 * i : Nat) : Int))) ?_
                  refine s_val rfl (v_conv Tryz.underlying3 Tryz.underlying47 rfl (w32u (by omega))) ?_
                  refine s_val rfl (v_move rfl) ?_
                  refine s_do rfl (d_call3 Tryz.call89 rfl (rvWriteN_spec W0 _ qv qs qm _ c' 16 a' _ pg hP hF (16 * i) (by omega) (putD L[i]) (putD_len _) (bytesL_by _) (sla_cells hf (cells_osl (E := 5) (sz := 1) (a := a') (c := c') (n := 16)) (fun _ => rfl) (byV_fm _).symm (by decide)) (by decide))) ?_
                  rintro _ B_ ⟨rfl, hB_⟩
                  obtain rfl := hB_.symm
                  refine x_nil (n_block (n_then (x_region (s_val rfl (v_move rfl) ?_))))
                  refine s_val rfl (v_add rfl rfl (by first | exact w64 (by omega) | rfl)) ?_
                  refine s_val rfl (v_assign rfl) (x_nil (n_then ?_))
                  refine inv_intro (i + 1) ?_ ?_ ?_ ?_
                  · omega
                  · omega
                  · repeat (first | exact sub_nil | refine sub_cons rfl ?_)
                  · simp only [hsD]; exact inferInstance
                · intro c20
                  refine x_exit (e_then (e_then (e_block (n_then ?_))))
                  refine mid_intro () ?_ ?_ ?_
                  · trivial
                  · repeat (first | exact sub_nil | refine sub_cons rfl ?_)
                  · obtain rfl : i = min L.length 8 := by omega
                    simp only [mgH, hgL]; exact inferInstance
              · intro g20_6
                refine s_no rfl rfl rfl rfl (s_val rfl (v_pick_f rfl rfl) (x_nil (n_then (x_iff rfl (x_exit (e_then (e_then (e_block (n_then ?_)))))))))
                refine mid_intro () ?_ ?_ ?_
                · trivial
                · repeat (first | exact sub_nil | refine sub_cons rfl ?_)
                · obtain rfl : i = min L.length 8 := by omega
                  simp only [mgH, hgL]; exact inferInstance
          · intro _ _
            refine x_cut (fun _ : Unit => True) (fun _ => [(1, .pointer (some ⟨b1, 0, none⟩)), (13, .pointer (some ⟨pv, 0, none⟩)), (15, .pointer (some ⟨qv, 0, none⟩))]) (fun _ => pt b1 (cob [.slice al L.length cl, .slice ah H.length ch, .slice aa A.length ca, .slice ab B.length cb, .int .u32 p] 100) :: prH pv ps pm qv qs qm (mgH pg g (min H.length 4)).2 (mgH pg g (min H.length 4)).1 pg R) ?_ ?_
            · skip
              refine x_seq (x_region (s_val rfl (v_assign rfl) (x_nil (n_then (x_block ?_)))))
              refine x_loop (fun i : Nat => i ≤ min H.length 4) (fun i => [(1, .pointer (some ⟨b1, 0, none⟩)), (13, .pointer (some ⟨pv, 0, none⟩)), (15, .pointer (some ⟨qv, 0, none⟩)), (19, .int .i64 i)]) (fun i => pt b1 (cob [.slice al L.length cl, .slice ah H.length ch, .slice aa A.length ca, .slice ab B.length cb, .int .u32 p] 100) :: prH pv ps pm qv qs qm (mgH pg g i).2 (mgH pg g i).1 pg R) (fun i => 4 - i) 0 ?_ ?_ ?_ ?_
              · exact Nat.zero_le _
              · repeat (first | exact sub_nil | refine sub_cons rfl ?_)
              · exact inferInstance
              · intro i hi
                obtain ⟨hF, hFl, hFd⟩ := mgH_ok pg g i
                refine x_seq (x_seq (x_region (s_val rfl (v_move rfl) ?_)))
                refine s_val rfl (v_fieldAddr rfl Tryz.underlying100 rfl Tryz.sizeOf44 rfl (by first | exact Nat.zero_add _ | rfl)) ?_
                refine s_val rfl (v_load Tryz.isAgg44 rfl (cell_own rfl)) ?_
                refine s_val rfl (v_len_slice Tryz.underlying44 rfl) (s_val rfl (v_lss rfl rfl) (s_val rfl (v_move rfl) ?_))
                refine s_and rfl rfl rfl ?_ ?_
                · intro g26_6
                  refine s_val rfl (v_move rfl) (s_yes rfl rfl (s_val rfl (v_lss rfl rfl) (s_val rfl (v_pick_t rfl rfl) (x_nil (n_then ?_)))))
                  refine x_if rfl ?_ ?_
                  · intro c26
                    refine x_skip (n_then (x_seq (x_block (x_seq ?_))))
                    have hi1 : i < H.length := by omega
                    obtain ⟨gh, oh, rfl, hch⟩ := hgh.at_ hi1
                    have hhi : H[i] < 256 := hgho.get hi1
                    have hsH : mgH pg g (i + 1) = (vsvF (mgH pg g i).1 pg (132 + 4 * i) 4 H[i], vsvD (mgH pg g i).1 pg (132 + 4 * i) 4 (mgH pg g i).2) := by rw [mgH, hgH]; simp [List.getD, hi1]
                    refine x_region (s_val rfl (v_move rfl) (s_val rfl (v_move rfl) ?_))
                    refine s_val rfl (v_mul rfl rfl (by rw [w64 (by omega)]; omega : IntKind.wrap .i64 (4 * (i : Int)) = ((4 * i : Nat) : Int))) ?_
                    refine s_val rfl (v_add rfl rfl (by rw [w64 (by omega)]; omega : IntKind.wrap .i64 (132 + ((4 * i : Nat) : Int)) = ((132 + 4 * i : Nat) : Int))) ?_
                    refine s_val rfl (v_conv Tryz.underlying3 Tryz.underlying47 rfl (w32u (by omega))) ?_
                    refine s_val rfl (v_fieldAddr rfl Tryz.underlying100 rfl Tryz.sizeOf44 rfl (by first | exact Nat.zero_add _ | rfl)) ?_
                    refine s_val rfl (v_load Tryz.isAgg44 rfl (cell_own rfl)) ?_
                    refine s_val rfl (v_move rfl) ?_
                    refine s_val rfl (v_idx Tryz.underlying44 Tryz.sizeOf5 rfl rfl rfl hi1 (by first | exact Nat.zero_add _ | rfl)) ?_
                    refine s_val rfl (v_load Tryz.isAgg5 rfl (Cells.weak hch 0 _ rfl)) ?_
                    refine s_val rfl (v_conv Tryz.underlying5 Tryz.underlying47 rfl (w32u (by omega))) ?_
                    refine s_do rfl (d_call3 Tryz.call41 rfl (viSave_spec W0 _ pv ps pm _ _ pg hP hF hFd (132 + 4 * i) (by omega) 4 H[i] (by omega))) ?_
                    rintro _ B_ ⟨rfl, hB_⟩
                    obtain rfl := hB_.symm
                    refine x_nil (n_then (x_region (s_val rfl (v_move rfl) (s_val rfl (v_move rfl) ?_))))
                    refine s_val rfl (v_mul rfl rfl (by rw [w64 (by omega)]; omega : IntKind.wrap .i64 (4 * (i : Int)) = ((4 * i : Nat) : Int))) ?_
                    refine s_val rfl (v_add rfl rfl (by rw [w64 (by omega)]; omega : IntKind.wrap .i64 (132 + ((4 * i : Nat) : Int)) = ((132 + 4 * i : Nat) : Int))) ?_
                    refine s_val rfl (v_conv Tryz.underlying3 Tryz.underlying47 rfl (w32u (by omega))) ?_
                    refine s_val rfl (v_fieldAddr rfl Tryz.underlying100 rfl Tryz.sizeOf44 rfl (by first | exact Nat.zero_add _ | rfl)) ?_
                    refine s_val rfl (v_load Tryz.isAgg44 rfl (cell_own rfl)) ?_
                    refine s_val rfl (v_move rfl) ?_
                    refine s_val rfl (v_idx Tryz.underlying44 Tryz.sizeOf5 rfl rfl rfl hi1 (by first | exact Nat.zero_add _ | rfl)) ?_
                    refine s_val rfl (v_load Tryz.isAgg5 rfl (Cells.weak hch 0 _ rfl)) ?_
                    refine s_val rfl (v_conv Tryz.underlying5 Tryz.underlying47 rfl (w32u (by omega))) ?_
                    refine s_do rfl (d_call3 Tryz.call42 rfl (rvSave_spec W0 _ qv qs qm _ _ pg hP hF (132 + 4 * i) (by omega) 4 H[i] (by omega))) ?_
                    rintro _ B_ ⟨rfl, hB_⟩
                    obtain rfl := hB_.symm
                    refine x_nil (n_block (n_then (x_region (s_val rfl (v_move rfl) ?_))))
                    refine s_val rfl (v_add rfl rfl (by first | exact w64 (by omega) | rfl)) ?_
                    refine s_val rfl (v_assign rfl) (x_nil (n_then ?_))
                    refine inv_intro (i + 1) ?_ ?_ ?_ ?_
                    · omega
                    · omega
                    · repeat (first | exact sub_nil | refine sub_cons rfl ?_)
                    · simp only [hsH]; exact inferInstance
                  · intro c26
                    refine x_exit (e_then (e_then (e_block (n_then ?_))))
                    refine mid_intro () ?_ ?_ ?_
                    · trivial
                    · repeat (first | exact sub_nil | refine sub_cons rfl ?_)
                    · obtain rfl : i = min H.length 4 := by omega
                      exact inferInstance
                · intro g26_6
                  refine s_no rfl rfl rfl rfl (s_val rfl (v_pick_f rfl rfl) (x_nil (n_then (x_iff rfl (x_exit (e_then (e_then (e_block (n_then ?_)))))))))
                  refine mid_intro () ?_ ?_ ?_
                  · trivial
                  · repeat (first | exact sub_nil | refine sub_cons rfl ?_)
                  · obtain rfl : i = min H.length 4 := by omega
                    exact inferInstance
            · intro _ _
              refine x_seq ?_
              obtain ⟨hF, hFl, hFd⟩ := mgH_ok pg g (min H.length 4)
              have hmg : mgP pg g = (vsvF (mgH pg g (min H.length 4)).1 pg 128 4 p, vsvD (mgH pg g (min H.length 4)).1 pg 128 4 (mgH pg g (min H.length 4)).2) := by rw [mgP, hgH, hgP]
              rw [hmg]
              generalize (mgH pg g (min H.length 4)).1 = f0 at hF hFl ⊢
              generalize (mgH pg g (min H.length 4)).2 = d0 at hFd ⊢
              refine x_region (s_val rfl (v_move rfl) ?_)
              refine s_val rfl (v_fieldAddr rfl Tryz.underlying100 rfl Tryz.sizeOf47 rfl (by first | exact Nat.zero_add _ | rfl)) ?_
              refine s_val rfl (v_load Tryz.isAgg47 rfl (cell_own rfl)) ?_
              refine s_do rfl (d_call3 Tryz.call41 rfl (viSave_spec W0 _ pv ps pm d0 f0 pg hP hF hFd 128 (by decide) 4 p hgp)) ?_
              rintro _ B_ ⟨rfl, hB_⟩
              obtain rfl := hB_.symm
              refine x_nil (n_then (x_seq (x_region (s_val rfl (v_move rfl) ?_))))
              refine s_val rfl (v_fieldAddr rfl Tryz.underlying100 rfl Tryz.sizeOf47 rfl (by first | exact Nat.zero_add _ | rfl)) ?_
              refine s_val rfl (v_load Tryz.isAgg47 rfl (cell_own rfl)) ?_
              refine s_do rfl (d_call3 Tryz.call42 rfl (rvSave_spec W0 _ qv qs qm d0 f0 pg hP hF 128 (by decide) 4 p hgp)) ?_
              rintro _ B_ ⟨rfl, hB_⟩
              obtain rfl := hB_.symm
              refine x_nil (n_then (x_seq (x_region (s_do rfl (d_call Tryz.call91 rfl (qNew_spec W0 _)) ?_))))
              rintro _ B_ ⟨bq, rfl, hB_⟩
              obtain rfl := hB_.symm
              refine s_val rfl (v_assign rfl) (x_nil (n_then (x_seq (x_region (s_val rfl (v_build Tryz.underlying76 Tryz.zeroValue76 (sized_cons Tryz.sizeOf73 sized_nil) fil_nil) ?_)))))
              refine s_do rfl (d_boxA rfl) ?_
              rintro _ _ ⟨br, rfl, rfl⟩
              refine s_val rfl (v_assign rfl) (x_nil (n_then (x_seq (x_seq (run_pt (b := br) (o' := rqO qs0) rfl ?_)))))
              obtain ⟨hvF, hvL⟩ := vsvF_ok (pg := pg) (pa := 128) (w := 4) (x := p) hF
              rw [hFl] at hvL
              generalize vsvF f0 pg 128 4 p = f1 at hvF hvL ⊢
              generalize vsvD f0 pg 128 4 d0 = d1
              rw [← hvL] at hfit
              refine x_region (s_val rfl (v_move rfl) (s_val rfl (v_move rfl) (s_do rfl (d_call Tryz.call129 rfl (lies25_spec W0 _)) ?_)))
              rintro _ B_ ⟨rfl, hB_⟩
              obtain rfl := hB_.symm
              refine s_do rfl (d_call4 Tryz.call92 rfl (qLay_spec W0 _ bq pv ps pm d1 f1 pg hP qs0 ⟨0, 128, 192, ((4 : Nat) : Int)⟩ ⟨by decide, by decide, by decide⟩ hfit)) ?_
              rintro _ B_ ⟨rfl, hB_⟩
              obtain rfl := hB_.symm
              refine s_val rfl (v_neq rfl rfl) (s_val rfl (v_move rfl) ?_)
              refine s_or rfl rfl rfl ?_ ?_
              · intro g34_6
                exact absurd rfl g34_6
              · intro g34_6
                refine s_val rfl (v_move rfl) (s_yes rfl rfl (s_val rfl (v_move rfl) (s_yes rfl rfl (s_do rfl (d_call Tryz.call129 rfl (lies25_spec W0 _)) ?_))))
                rintro _ B_ ⟨rfl, hB_⟩
                obtain rfl := hB_.symm
                refine s_yes rfl rfl ?_
                refine s_do rfl (d_call4 Tryz.call94 rfl (rqLay_spec W0 _ br qv qs qm d1 f1 pg hP qs0 ⟨0, 128, 192, ((4 : Nat) : Int)⟩ ⟨by decide, by decide, by decide⟩ hfit)) ?_
                rintro _ B_ ⟨rfl, hB_⟩
                obtain rfl := hB_.symm
                refine s_yes rfl rfl (s_val rfl (v_neq rfl rfl) (s_val rfl (v_pick_f rfl rfl) (x_nil (n_then ?_))))
                refine x_if rfl ?_ ?_
                · intro c34
                  exact absurd rfl c34
                · intro c34
                  refine x_skip (n_then (x_seq (x_region (s_val rfl (v_move rfl) (s_val rfl (v_move rfl) (s_val rfl (v_move rfl) (s_val rfl (v_move rfl) (s_val rfl (v_assign rfl) (s_val rfl (v_assign rfl) (s_val rfl (v_assign rfl) (s_val rfl (v_assign rfl) (x_nil (n_then (x_ret (x_done (.inl rfl) (.cons (r_tmp rfl) (.cons (r_tmp rfl) (.cons (r_tmp rfl) (.cons (r_tmp rfl) .nil)))) ?_)))))))))))))))
                  exact ⟨_, ⟨pv, ps, pm, qv, qs, qm, bq, br, rfl, rfl⟩, inferInstance⟩
end Go.Proofs.YtlnmofhehcilhaaGreat
namespace Go.Proofs.YtlnmofhehcilhaaGreat
open Go.RowKit
set_option linter.unusedSimpArgs false
set_option linter.unusedVariables false
set_option maxRecDepth 20000
theorem fit27 : fitB 8 (pg23 8) ⟨0, 128, 192, ((4 : Nat) : Int)⟩ = true := by decide +kernel
theorem r27_ok : Rg3.ok ⟨0, 128, 192, ((4 : Nat) : Int)⟩ := ⟨by decide, by decide, by decide⟩
theorem q27_ok : QOk q27 := ⟨fun _ => by show ((4 : Nat) : Int) = 2 ∨ ((4 : Nat) : Int) = 4 ∨ ((4 : Nat) : Int) = 8; decide, fun _ => by show (128 : Nat) ≤ 1000; decide, fun _ => by show (192 : Nat) ≤ 1000; decide, by decide, by decide⟩
end Go.Proofs.YtlnmofhehcilhaaGreat
namespace Go.Proofs.YtlnmofhehcilhaaGreat
open Go.RowKit
set_option linter.unusedSimpArgs false
set_option linter.unusedVariables false
set_option maxRecDepth 20000
theorem sbGo_ok {pg : List Pl} {who : Int} {len : Nat} {r : Rg3} : ∀ (k : Nat) {x : SbS}, SbOk len r x → SbOk len r (sbGo pg who k x)
  | 0, x, h => h
  | k + 1, x, h => by
    have ho := (sbSt_ok (pg := pg) (who := who) h).1
    rw [sbGo]; split
    · exact sbGo_ok k ho
    · exact ho
end Go.Proofs.YtlnmofhehcilhaaGreat
namespace Go.Proofs.YtlnmofhehcilhaaGreat
open Go.RowKit
set_option linter.unusedSimpArgs false
set_option linter.unusedVariables false
set_option maxRecDepth 20000
theorem mgA_cong {pg : List Pl} {g g' : Gst} (h1 : g.A = g'.A) (h2 : g.B.map (fun y => y.2.2) = g'.B.map (fun y => y.2.2)) : ∀ i, mgA pg g i = mgA pg g' i
  | 0 => rfl
  | i + 1 => by
    have e : ∀ l : List Bts, (l.getD i (none, 0, [])).2.2 = (l.map (fun y => y.2.2)).getD i [] := fun l => by
      simp only [List.getD, List.getElem?_map]
      cases l[i]? <;> rfl
    rw [mgA, mgA, mgA_cong h1 h2 i, h1, e, e, h2]
theorem mgD_cong {pg : List Pl} {g g' : Gst} (h1 : g.A = g'.A) (h2 : g.B.map (fun y => y.2.2) = g'.B.map (fun y => y.2.2)) (h3 : g.L = g'.L) : ∀ i, mgD pg g i = mgD pg g' i
  | 0 => by
    have hn : mgN g = mgN g' := by
      have := congrArg List.length h2
      rw [List.length_map, List.length_map] at this
      rw [mgN, mgN, this, h1]
    rw [mgD, mgD, hn]; exact mgA_cong h1 h2 _
  | i + 1 => by rw [mgD, mgD, mgD_cong h1 h2 h3 i, h3]
theorem mgH_cong {pg : List Pl} {g g' : Gst} (h1 : g.A = g'.A) (h2 : g.B.map (fun y => y.2.2) = g'.B.map (fun y => y.2.2)) (h3 : g.L = g'.L) (h4 : g.H = g'.H) : ∀ i, mgH pg g i = mgH pg g' i
  | 0 => by rw [mgH, mgH, h3]; exact mgD_cong h1 h2 h3 _
  | i + 1 => by rw [mgH, mgH, mgH_cong h1 h2 h3 h4 i, h4]
theorem mk27_cong {g g' : Gst} (h1 : g.A = g'.A) (h2 : g.B.map (fun y => y.2.2) = g'.B.map (fun y => y.2.2)) (h3 : g.L = g'.L) (h4 : g.H = g'.H) (h5 : g.p = g'.p) : mk27 g = mk27 g' := by
  rw [mk27, mk27, mgP, mgP, mgH_cong h1 h2 h3 h4, h4, h5]
end Go.Proofs.YtlnmofhehcilhaaGreat
namespace Go.Proofs.YtlnmofhehcilhaaGreat
open Go.RowKit
set_option linter.unusedSimpArgs false
set_option linter.unusedVariables false
set_option maxRecDepth 20000
@[reducible] def g25 (b1 b2 : Nat) : Gst := ⟨some ⟨b1, 0, none⟩, 2, [⟨320, 8, 1, 1⟩, ⟨384, 17, 2, 0⟩], some ⟨b2, 0, none⟩, 1, [0], none, 0, [], none, 0, [], 1⟩
@[reducible] def h25 (b1 b2 : Nat) (R : List HP) : List HP := pt b2 (cob [.int .u8 0] 5) :: pt b1 (cob [.int .u32 320, .int .u32 8, .int .u32 1, .int .u32 1, .int .u32 384, .int .u32 17, .int .u32 2, .int .u32 0] 99) :: R
theorem asks25_spec (W0 : World) (R : List HP) : Spec Tryz.prog W0 46 [] R
    (fun v B => ∃ b1 b2, v = .agg (gstV (g25 b1 b2)).toArray ∧ B = h25 b1 b2 R) := by
  refine spec_body Tryz.func46 Tryz.ntmps46 rfl rfl ?_
  refine x_seq (x_region (s_do rfl (d_allocA Tryz.zeroValue100) ?_))
  rintro _ _ ⟨b0, rfl, rfl⟩
  refine x_nil (n_then (x_seq (x_region (s_val rfl (v_build Tryz.underlying99 Tryz.zeroValue99 (sized_cons Tryz.sizeOf47 (sized_cons Tryz.sizeOf47 (sized_cons Tryz.sizeOf47 (sized_cons Tryz.sizeOf47 sized_nil)))) (fil_scal rfl Tryz.sizeOf47 rfl rfl (Nat.le_of_ble_eq_true rfl) SetL.eq (fil_scal rfl Tryz.sizeOf47 rfl rfl (Nat.le_of_ble_eq_true rfl) SetL.eq (fil_scal rfl Tryz.sizeOf47 rfl rfl (Nat.le_of_ble_eq_true rfl) SetL.eq (fil_scal rfl Tryz.sizeOf47 rfl rfl (Nat.le_of_ble_eq_true rfl) SetL.eq fil_nil))))) ?_))))
  refine s_val rfl (v_build Tryz.underlying99 Tryz.zeroValue99 (sized_cons Tryz.sizeOf47 (sized_cons Tryz.sizeOf47 (sized_cons Tryz.sizeOf47 (sized_cons Tryz.sizeOf47 sized_nil)))) (fil_scal rfl Tryz.sizeOf47 rfl rfl (Nat.le_of_ble_eq_true rfl) SetL.eq (fil_scal rfl Tryz.sizeOf47 rfl rfl (Nat.le_of_ble_eq_true rfl) SetL.eq (fil_scal rfl Tryz.sizeOf47 rfl rfl (Nat.le_of_ble_eq_true rfl) SetL.eq fil_nil)))) ?_
  refine s_do rfl (d_sliceAgg Tryz.underlying43 Tryz.sizeOf99 Tryz.zeroValue99 rfl (elsK_cons rfl rfl (elsK_cons rfl rfl elsK_nil)) rfl (by decide) (by decide) (by decide)) ?_
  rintro _ _ ⟨b1, rfl, rfl⟩
  refine s_do rfl (d_sliceLit Tryz.underlying44 Tryz.sizeOf5 Tryz.zeroValue5 rfl rfl rfl rfl rfl (by decide) (by decide)) ?_
  rintro _ _ ⟨b2, rfl, rfl⟩
  refine s_val rfl (v_build Tryz.underlying100 Tryz.zeroValue100 (sized_cons Tryz.sizeOf43 (sized_cons Tryz.sizeOf44 (sized_cons Tryz.sizeOf45 (sized_cons Tryz.sizeOf46 (sized_cons Tryz.sizeOf47 sized_nil))))) (fil_scal rfl Tryz.sizeOf43 rfl rfl (Nat.le_of_ble_eq_true rfl) SetL.eq (fil_scal rfl Tryz.sizeOf44 rfl rfl (Nat.le_of_ble_eq_true rfl) SetL.eq (fil_scal rfl Tryz.sizeOf47 rfl rfl (Nat.le_of_ble_eq_true rfl) SetL.eq fil_nil)))) ?_
  refine s_do0 (d_storeAll Tryz.sizeOf100 rfl rfl rfl rfl rfl) ?_
  rintro _ _ rfl
  refine x_nil (n_then (x_ret (run_pt (b := b1) (o' := cob [.int .u32 320, .int .u32 8, .int .u32 1, .int .u32 1, .int .u32 384, .int .u32 17, .int .u32 2, .int .u32 0] 99) rfl ?_)))
  refine x_done (.inl rfl) (.cons (r_all Tryz.isAgg100 Tryz.sizeOf100 rfl rfl) .nil) ?_
  exact ⟨_, ⟨b1, b2, rfl, rfl⟩, inferInstance⟩
theorem gok25 {W0 : World} {R : List HP} {b1 b2 : Nat} : GOk (OwnP W0 (h25 b1 b2 R)) (g25 b1 b2) := by
  refine ⟨sla_cells (.inr ⟨b1, rfl⟩) (cells_all (b := b1)) (fun _ => rfl) rfl (by decide), fun d hd => ?_, sla_cells (.inr ⟨b2, rfl⟩) (cells_all (b := b2)) (fun _ => rfl) rfl (by decide), fun x hx => ?_,
    sla_nil, fun x hx => ?_, sla_nil, fun y hy => ?_, by show (1 : Nat) < _; decide, ⟨by show (2 : Nat) < _; decide, by show (1 : Nat) < _; decide, by show (0 : Nat) < _; decide, by show (0 : Nat) < _; decide⟩⟩
  · simp at hd
    rcases hd with rfl | rfl
    · exact ⟨by show (320 : Nat) < _; decide, by show (8 : Nat) < _; decide, by show (1 : Nat) < _; decide, by show (1 : Nat) < _; decide⟩
    · exact ⟨by show (384 : Nat) < _; decide, by show (17 : Nat) < _; decide, by show (2 : Nat) < _; decide, by show (0 : Nat) < _; decide⟩
  · simp at hx; subst hx; decide
  · simp at hx
  · simp at hy
@[reducible] def sb25 (x : List Frm × Nat) (k : Dk) : SbS := ⟨x.1, x.2, q27, k, 0, 0, 0, 0⟩
theorem sb_start {x : List Frm × Nat} {k : Dk} (hM : Mem8 x) (hk : DkOk k) : SbOk 8 r27 (sb25 x k) := ⟨hM.1, hM.2.1, hM.2.2, q27_ok, rfl, hk⟩
theorem bkServe25 (W0 : World) (R : List HP) (bq pv dd ps_ pm : Nat) (who : Int) (x : List Frm × Nat) (hx : Mem8 x) (k : Dk) (hk : DkOk k) :
    Spec Tryz.prog W0 45 [.pointer (some ⟨pv, 0, none⟩), .pointer (some ⟨bq, 0, none⟩), .pointer (some ⟨dd, 0, none⟩), .int .i64 who]
      (pt bq (qO true q27) :: dkH dd k :: vwW pv ps_ pm x.2 x.1 (pg23 8) R)
      (fun v B => ∃ y, y = sbGo (pg23 8) who 4 (sb25 x k) ∧ v = .agg (SbS.v y).toArray ∧ B = pt bq (qO true y.s) :: dkH dd y.x :: vwW pv ps_ pm y.d y.fr (pg23 8) R) :=
  bkServe_spec W0 R bq pv dd ps_ pm (pg23 8) (pg23_ok 8) who x.1 x.2 0 128 192 4 0 0 true 0 k (by decide) r27_ok 8 (sb_start hx hk)
def k25 : Dk := ⟨[(0, 1, 0)], [0], List.replicate 32 z16⟩
theorem dk25 : dkNew [(0, 0, 1)] = some k25 := by
  have h : dnK [(0, 0, 1)] 1 = some ([(0, 1, 0)], [0]) := by decide +kernel
  show (if 8 < 1 then none else (dnK [(0, 0, 1)] 1).map _) = _
  rw [h]; rfl
def aw25Y : SbS := sbGo (pg23 8) 0 4 (sb25 (mk27 (g25 0 0)) (flD k25 0 ⟨#[97]⟩))
theorem aw25 : aw25Y.c = 1 ∧ aw25Y.n = 2 ∧ aw25Y.b = 16 ∧ aw25Y.w = 0 ∧ rdO aw25Y.fr (pg23 8) 384 1 = [97] := by decide +kernel
theorem lb25 : (lbW k25 0).isSome = true := by decide +kernel
theorem awake25_spec (W0 : World) (R : List HP) : Spec Tryz.prog W0 48 [] R (fun v B => v = .bool true ∧ B = R) := by
  refine spec_body Tryz.func48 Tryz.ntmps48 rfl rfl ?_
  refine x_seq (x_region (s_val rfl (v_assign rfl) (x_nil (n_then (x_seq (x_region (s_do rfl (d_call Tryz.call46 rfl (asks25_spec W0 _)) ?_)))))))
  rintro _ B_ ⟨b1, b2, rfl, hB_⟩
  obtain rfl := hB_.symm
  refine s_do rfl (d_call Tryz.call44 rfl (made25_spec W0 _ (g25 b1 b2) gok25 fit27)) ?_
  rintro _ B_ ⟨pv, ps, pm, qv, qs, qm, bq, br, rfl, hB_⟩
  obtain rfl := hB_.symm
  have hM := mk27_ok (g25 b1 b2)
  have hE : mk27 (g25 b1 b2) = mk27 (g25 0 0) := mk27_cong rfl rfl rfl rfl rfl
  rw [hE] at hM ⊢
  obtain ⟨x, hx⟩ : ∃ x, mk27 (g25 0 0) = x := ⟨_, rfl⟩
  have hA := aw25
  rw [aw25Y, hx] at hA
  rw [hx] at hM ⊢
  refine s_val rfl (v_move rfl) (s_val rfl (v_extract rfl rfl) (s_val rfl (v_extract rfl rfl) (s_val rfl (v_extract rfl rfl) (s_val rfl (v_extract rfl rfl) (s_val rfl (v_assign rfl) (s_val rfl (v_assign rfl) (s_val rfl (v_assign rfl) (s_val rfl (v_assign rfl) (x_nil (n_then (x_seq (x_region (s_val rfl (v_build Tryz.underlying97 Tryz.zeroValue97 (sized_cons Tryz.sizeOf3 (sized_cons Tryz.sizeOf3 (sized_cons Tryz.sizeOf3 sized_nil))) (fil_scal rfl Tryz.sizeOf3 rfl rfl (Nat.le_of_ble_eq_true rfl) SetL.eq (fil_scal rfl Tryz.sizeOf3 rfl rfl (Nat.le_of_ble_eq_true rfl) SetL.eq fil_nil))) ?_)))))))))))))
  refine s_do rfl (d_sliceAgg Tryz.underlying23 Tryz.sizeOf97 Tryz.zeroValue97 rfl (elsK_cons rfl rfl elsK_nil) rfl (by decide) (by decide) (by decide)) ?_
  rintro _ _ ⟨bl, rfl, rfl⟩
  refine s_do rfl (d_call Tryz.call43 rfl (dkNew_spec W0 _ (some ⟨bl, 0, none⟩) 1 [(0, 0, 1)] (sla_cells (.inr ⟨bl, rfl⟩) (cells_all (b := bl)) (fun _ => rfl) rfl (by decide)) (by decide))) ?_
  rintro _ B_ ⟨p, Y, rfl, hB_, _, hye⟩
  obtain rfl := hB_.symm
  have hk0 := dkNew_ok dk25
  obtain ⟨d, rfl, rfl⟩ := hye _ dk25
  rw [dk25]
  simp only [List.cons_append, List.nil_append, Option.isSome_some, if_true]
  refine s_val rfl (v_move rfl) (s_val rfl (v_extract rfl rfl) (s_val rfl (v_extract rfl rfl) (s_val rfl (v_assign rfl) (s_val rfl (v_assign rfl) (x_nil (n_then (x_seq (x_seq (x_region (s_val rfl (v_move rfl) (s_val rfl (v_eql_ptr_nil Tryz.underlying51 rfl rfl) (s_val rfl (v_move rfl) ?_))))))))))))
  refine s_or rfl rfl rfl ?_ ?_
  · intro g3_3
    cases g3_3
  · intro g3_3
    refine s_val rfl (v_move rfl) (s_yes rfl rfl (s_val rfl (v_eql_ptr_nil Tryz.underlying93 rfl rfl) (s_val rfl (v_pick_f rfl rfl) (s_val rfl (v_move rfl) ?_))))
    refine s_or rfl rfl rfl ?_ ?_
    · intro g3_7
      cases g3_7
    · intro g3_7
      refine s_val rfl (v_move rfl) (s_yes rfl rfl (s_do rfl (d_call1 Tryz.call50 rfl (dkFill_spec W0 _ d k25 hk0 0 ⟨#[97]⟩)) ?_))
      rintro _ B_ ⟨rfl, hB_⟩
      obtain rfl := hB_.symm
      rw [if_pos lb25]
      have hk1 := flD_ok hk0 0 ⟨#[97]⟩
      refine s_yes rfl rfl (s_val rfl (v_neq rfl rfl) (s_val rfl (v_pick_f rfl rfl) (x_nil (n_then ?_))))
      refine x_if rfl ?_ ?_
      · intro c3
        exact absurd c3 (by decide)
      · intro c3
        refine x_skip (n_then (x_seq (x_region (s_val rfl (v_move rfl) (s_val rfl (v_move rfl) (s_val rfl (v_move rfl) (s_do rfl (d_call5 Tryz.call45 rfl (bkServe25 W0 _ bq pv d ps pm 0 x hM _ hk1)) ?_)))))))
        rintro _ B_ ⟨y, hy, rfl, hB_⟩
        obtain rfl := hB_.symm
        rw [← hy] at hA
        have hyo := sbGo_ok (pg := pg23 8) (who := 0) 4 (sb_start hM hk1)
        rw [← hy] at hyo
        obtain ⟨h1, h2, h3, h4, h5⟩ := hA
        have hv : SbS.v y = [.int .i64 1, .int .i64 2, .int .i64 16, .int .i64 0] := by rw [SbS.v, h1, h2, h3, h4]; rfl
        rw [hv]
        refine s_do rfl (d_allocA Tryz.zeroValue67) ?_
        rintro _ _ ⟨b2, rfl, rfl⟩
        refine s_do0 (d_storeAll Tryz.sizeOf67 rfl rfl rfl rfl rfl) ?_
        rintro _ _ rfl
        refine x_nil (n_then (x_seq (x_region (s_val rfl (v_move rfl) ?_))))
        refine s_do rfl (d_call3 Tryz.call47 rfl (viRead_spec W0 _ pv ps pm y.d y.fr (pg23 8) (pg23_ok 8) hyo.frs 384 (by decide) 1)) ?_
        rintro _ B_ ⟨ar, cr, rfl, hB_⟩
        obtain rfl := hB_.symm
        rw [h5]
        refine s_val rfl (v_move rfl) (s_val rfl (v_extract rfl rfl) (s_val rfl (v_extract rfl rfl) (s_val rfl (v_assign rfl) (s_val rfl (v_assign rfl) (x_nil (n_then (x_seq ?_)))))))
        refine run_form (E := 5) (sz := 1) (a := ar) (c := cr) (n := [97].length) (ys := byV [97]) (fun hf => ?_)
        refine x_region (s_val rfl (v_loadAll Tryz.isAgg67 Tryz.sizeOf67 rfl rfl) ?_)
        refine s_val rfl (v_build Tryz.underlying67 Tryz.zeroValue67 (sized_cons Tryz.sizeOf3 (sized_cons Tryz.sizeOf3 (sized_cons Tryz.sizeOf3 (sized_cons Tryz.sizeOf3 sized_nil)))) (fil_scal rfl Tryz.sizeOf3 rfl rfl (Nat.le_of_ble_eq_true rfl) SetL.eq (fil_scal rfl Tryz.sizeOf3 rfl rfl (Nat.le_of_ble_eq_true rfl) SetL.eq (fil_scal rfl Tryz.sizeOf3 rfl rfl (Nat.le_of_ble_eq_true rfl) SetL.eq fil_nil)))) ?_
        refine s_val rfl (v_eql_agg Tryz.eqGuardType67 rfl rfl (q_struct Tryz.underlying67 Tryz.stoodInHeld67 (qf_scal rfl Tryz.isAgg3 rfl rfl (q_int Tryz.underlying3) (qf_scal rfl Tryz.isAgg3 rfl rfl (q_int Tryz.underlying3) (qf_scal rfl Tryz.isAgg3 rfl rfl (q_int Tryz.underlying3) (qf_scal rfl Tryz.isAgg3 rfl rfl (q_int Tryz.underlying3) qf_nil)))))) ?_
        refine s_val rfl (v_move rfl) ?_
        refine s_and rfl rfl rfl ?_ ?_
        · intro g7_4
          refine s_val rfl (v_move rfl) (s_yes rfl rfl ?_)
          refine s_val rfl (v_bstrSN (bs := [97]) Tryz.underlying44 Tryz.underlying5 Tryz.underlying9 rfl rfl (sla_cells hf (cells_osl (E := 5) (sz := 1) (a := ar) (n := [97].length) (c := cr)) (fun _ => rfl) (byV_fm [97]).symm (by decide))) ?_
          refine s_yes rfl rfl (s_val rfl (v_eql_str rfl rfl) (s_val rfl (v_pick_t rfl rfl) (s_val rfl (v_assign rfl) (x_nil (n_then (x_ret (x_done (.inl rfl) (.cons (r_tmp rfl) .nil) ?_)))))))
          rw [show strB [97] = (⟨#[97]⟩ : ByteArray) from rfl, beq_self_eq_true]
          exact ⟨_, ⟨rfl, rfl⟩, inferInstance⟩
        · intro g7_4
          exact absurd (by decide) g7_4
end Go.Proofs.YtlnmofhehcilhaaGreat
namespace Go.Proofs.YtlnmofhehcilhaaGreat
open Go.RowKit
set_option linter.unusedSimpArgs false
set_option linter.unusedVariables false
set_option maxRecDepth 20000
theorem putB_get {l : List Nat} {o k x j : Nat} (h : o + k ≤ l.length) : (putB l o k x).getD j 0 = if o ≤ j ∧ j < o + k then (leB k x).getD (j - o) 0 else l.getD j 0 := by
  have hn : (leB k x).length = k := leB_len k x
  have ht : (l.take o).length = o := by rw [List.length_take]; omega
  unfold putB
  simp only [List.getD_eq_getElem?_getD]
  by_cases h1 : j < o
  · rw [if_neg (by omega), List.append_assoc, List.getElem?_append_left (by omega), List.getElem?_take, if_pos h1]
  · by_cases h2 : j < o + k
    · rw [if_pos ⟨by omega, h2⟩, List.getElem?_append_left (by rw [List.length_append]; omega), List.getElem?_append_right (by omega), ht]
    · rw [if_neg (by omega), List.getElem?_append_right (by rw [List.length_append]; omega), List.length_append, ht, hn, List.getElem?_drop, show o + k + (j - (o + k)) = j by omega]
theorem ld_svW {fr : List Frm} {i i' o o' k x : Nat} (hF : Frs fr) (hi : i < fr.length) (hi' : i' < fr.length) (hk : k = 1 ∨ k = 2 ∨ k = 4) (ho : o + k ≤ 64) (ho' : o' < 64) :
    ldN (svF fr i o k x) i' o' 1 = if i = i' ∧ o ≤ o' ∧ o' < o + k then (leB k x).getD (o' - o) 0 else ldN fr i' o' 1 := by
  have hs : svOk fr (i : Int) (o : Int) (k : Int) = true := svOk_of hi hk ho
  have hF' := svF_ok (f := i) (off := o) (w := k) (v := x) hF
  have e1 := (ldN_nat (k := 1) hF' (i := i') (o := o') (by rw [svF_len]; exact hi') (by omega) (by omega)).1
  have e2 := (ldN_nat (k := 1) hF (i := i') (o := o') hi' (by omega) (by omega)).1
  have hl := (hF.get hi).1
  show ldN (svF fr i o k x) i' o' ((1 : Nat) : Int) = if i = i' ∧ o ≤ o' ∧ o' < o + k then (leB k x).getD (o' - o) 0 else ldN fr i' o' ((1 : Nat) : Int)
  rw [e1, e2, svF, if_pos hs, Int.toNat_natCast, Int.toNat_natCast, Int.toNat_natCast, getD_set hi]
  by_cases e : i = i'
  · subst e
    have hpl : (putB (fr.getD i []) o k x).length = (fr.getD i []).length := putB_len (by rw [hl]; exact ho)
    rw [if_pos rfl, take_one (by rw [hpl, hl]; exact ho'), take_one (by rw [hl]; exact ho'), putB_get (by rw [hl]; exact ho)]
    by_cases c : o ≤ o' ∧ o' < o + k
    · rw [if_pos c, if_pos ⟨rfl, c⟩]
    · rw [if_neg c, if_neg (fun q => c q.2)]
  · rw [if_neg e, if_neg (fun h => e h.1)]
theorem id23 : ∀ i, i < 8 → gGot (pg23 8) ((i : Nat) : Int) = ((i : Int), 3) := by decide +kernel
theorem fnd23 : ∀ k, k < 128 → fndE 8 (pg23 8) (4 * k) 4 2 = 0 ∧ fndE 8 (pg23 8) (4 * k) 4 1 = 0 := by decide +kernel
theorem own23 : ∀ k, k < 128 → ownB 8 (pg23 8) (4 * k) 4 = true := by decide +kernel
theorem wh23 {a : Nat} (h : a < 512) : whr (pg23 8) a = ((a / 64 : Nat) : Int) := by rw [whr, pgI, id23 _ (by omega)]
theorem rdv_save {fr : List Frm} (hF : Frs fr) (hl : fr.length = 8) {k x a : Nat} (hk : k < 128) (ha : a < 512) :
    rdv (vsvF fr (pg23 8) (4 * k) 4 x) (pg23 8) a = if 4 * k ≤ a ∧ a < 4 * k + 4 then (leB 4 x).getD (a - 4 * k) 0 else rdv fr (pg23 8) a := by
  rw [vsvF, hl, if_pos (fnd23 k hk).1, id23 (4 * k / 64) (by omega), rdv, wh23 ha, rdv, wh23 ha]
  refine (ld_svW (i := 4 * k / 64) (i' := a / 64) (o := 4 * k % 64) (o' := a % 64) (k := 4) hF (by omega) (by omega) (by omega) (by omega) (by omega)).trans ?_
  by_cases c : 4 * k ≤ a ∧ a < 4 * k + 4
  · rw [if_pos c, if_pos (by omega), show a % 64 - 4 * k % 64 = a - 4 * k by omega]
  · rw [if_neg c, if_neg (by omega)]
theorem rdv_wrK {fr : List Frm} (hF : Frs fr) (hl : fr.length = 8) {pa a : Nat} {bs : List Nat} (hb : By bs) (hpa : pa + bs.length ≤ 512) (ha : a < 512) : ∀ n, n ≤ bs.length →
    rdv (wrK fr (pg23 8) pa bs n) (pg23 8) a = if pa ≤ a ∧ a < pa + n then bs.getD (a - pa) 0 else rdv fr (pg23 8) a
  | 0, _ => by rw [if_neg (by omega)]; rfl
  | n + 1, hn => by
    obtain ⟨hFn, hln⟩ := wrK_ok (pg := pg23 8) (pa := pa) (bs := bs) hF n
    have ih := rdv_wrK hF hl hb hpa ha n (by omega)
    have hbn : bs.getD n 0 < 256 := by rw [List.getD_eq_getElem?_getD, List.getElem?_eq_getElem (by omega)]; exact hb.get (by omega)
    rw [rdv, wh23 ha] at ih ⊢
    rw [wrK, wh23 (by omega)]
    refine (ld_svW (i := (pa + n) / 64) (i' := a / 64) (o := (pa + n) % 64) (o' := a % 64) (k := 1) hFn (by omega) (by omega) (by omega) (by omega) (by omega)).trans ?_
    by_cases c : a = pa + n
    · subst c
      rw [if_pos (by omega), if_pos (by omega), show (pa + n) % 64 - (pa + n) % 64 = 0 by omega, show pa + n - pa = n by omega]
      rw [show leB 1 (bs.getD n 0) = [bs.getD n 0 % 256] by simp [leB], List.getD_cons_zero, Nat.mod_eq_of_lt hbn]
    · rw [if_neg (by omega), ih]
      by_cases c2 : pa ≤ a ∧ a < pa + n
      · rw [if_pos c2, if_pos (by omega)]
      · rw [if_neg c2, if_neg (by omega)]
def wd (fr : List Frm) (k : Nat) : Nat := wrdW fr (pg23 8) (4 * k)
theorem wd_eq {fr : List Frm} (hl : fr.length = 8) {k : Nat} (hk : k < 128) : wd fr k = leN (rdL fr (pg23 8) (4 * k) 4) := by rw [wd, wrdW, hl, if_pos (own23 k hk)]
theorem wd_of {fr : List Frm} (hl : fr.length = 8) {k x : Nat} (hk : k < 128) (hx : x < 4294967296) (h : ∀ i, i < 4 → rdv fr (pg23 8) (4 * k + i) = (leB 4 x).getD i 0) : wd fr k = x := by
  have e : rdL fr (pg23 8) (4 * k) 4 = leB 4 x := by
    apply List.ext_getElem
    · rw [rdL_len, leB_len]
    · intro i h1 h2
      rw [leB_len] at h2
      simp only [rdL, List.getElem_map, List.getElem_range]
      rw [h i h2, List.getD_eq_getElem?_getD, List.getElem?_eq_getElem (by rw [leB_len]; exact h2)]; rfl
  rw [wd_eq hl hk, e, leN_leB]; exact Nat.mod_eq_of_lt (by simpa using hx)
theorem wd_congr {fr fr' : List Frm} (hl : fr.length = 8) (hl' : fr'.length = 8) {k : Nat} (hk : k < 128) (h : ∀ i, i < 4 → rdv fr' (pg23 8) (4 * k + i) = rdv fr (pg23 8) (4 * k + i)) : wd fr' k = wd fr k := by
  rw [wd_eq hl hk, wd_eq hl' hk]
  congr 1
  apply List.map_congr_left
  intro i hi
  exact h i (List.mem_range.1 hi)
theorem wd_save {fr : List Frm} (hF : Frs fr) (hl : fr.length = 8) {k x j : Nat} (hk : k < 128) (hj : j < 128) (hx : x < 4294967296) : wd (vsvF fr (pg23 8) (4 * k) 4 x) j = if j = k then x else wd fr j := by
  have hl' : (vsvF fr (pg23 8) (4 * k) 4 x).length = 8 := (vsvF_ok hF).2.trans hl
  by_cases e : j = k
  · subst e; rw [if_pos rfl]
    exact wd_of hl' hj hx fun i hi => by rw [rdv_save hF hl hk (by omega), if_pos (by omega), show 4 * j + i - 4 * j = i by omega]
  · rw [if_neg e]
    exact wd_congr hl hl' hj fun i hi => by rw [rdv_save hF hl hk (by omega), if_neg (by omega)]
end Go.Proofs.YtlnmofhehcilhaaGreat
namespace Go.Proofs.YtlnmofhehcilhaaGreat
open Go.RowKit
set_option linter.unusedSimpArgs false
set_option linter.unusedVariables false
set_option maxRecDepth 20000
@[reducible] def tq (n i p : Nat) : QS := ⟨⟨0, 128, 192, n⟩, true, 0, i, p⟩
theorem tq_ok {n i p : Nat} (hn : n = 2 ∨ n = 4 ∨ n = 8) (hi : i < 65536) (hp : p < 65536) : QOk (tq n i p) := ⟨fun _ => by show (n : Int) = 2 ∨ (n : Int) = 4 ∨ (n : Int) = 8; omega, fun _ => by show (128 : Nat) ≤ 1000; decide, fun _ => by show (192 : Nat) ≤ 1000; decide, hi, hp⟩
theorem hdT {fr : List Frm} (hF : Frs fr) (hl : fr.length = 8) {n last : Nat} (hn : n = 2 ∨ n = 4 ∨ n = 8) :
    hdR fr (pg23 8) 128 last n = if n < wtN last (wd fr 32) then (0, false, 7) else if wtN last (wd fr 32) = 0 then (0, false, 0) else if n ≤ wd fr (33 + last % n) then (0, false, 1) else (wd fr (33 + last % n), true, 0) := by
  have hm := Nat.mod_lt last (show 0 < n by omega)
  have hA : hdA 128 last n = 4 * (33 + last % n) := by unfold hdA; omega
  have h1 : ownB fr.length (pg23 8) 128 4 = true := by rw [hl]; exact own23 32 (by decide)
  have h2 : ownB fr.length (pg23 8) ((4 * (33 + last % n) : Nat) : Nat) 4 = true := by rw [hl]; exact own23 _ (by omega)
  rw [hdR, if_pos h1, hA, if_pos h2]; rfl
theorem nx_tq {fr : List Frm} {pg : List Pl} {n i p : Nat} {r : Nat × Bool × Int} (h : hdR fr pg 128 i n = r) :
    nxR fr pg (tq n i p) = (if r.2.2 ≠ 0 then (0, false, r.2.2) else r) ∧ nxS fr pg (tq n i p) = (if r.2.2 ≠ 0 then { tq n i p with br := r.2.2 } else if r.2.1 then tq n ((i + 1) % 65536) p else tq n i p) := by
  subst h; exact ⟨rfl, rfl⟩
theorem stepT0 {fr : List Frm} (hF : Frs fr) (hl : fr.length = 8) {n i p : Nat} (hn : n = 2 ∨ n = 4 ∨ n = 8) (hi : i < 60000) (hw : wd fr 32 = i) : nxR fr (pg23 8) (tq n i p) = (0, false, 0) ∧ nxS fr (pg23 8) (tq n i p) = tq n i p := by
  have h := hdT hF hl (last := i) hn
  rw [hw, show wtN i i = 0 by unfold wtN; omega, if_neg (by omega), if_pos rfl] at h
  exact nx_tq h
end Go.Proofs.YtlnmofhehcilhaaGreat
namespace Go.Proofs.YtlnmofhehcilhaaGreat
open Go.RowKit
set_option linter.unusedSimpArgs false
set_option linter.unusedVariables false
set_option maxRecDepth 20000
theorem frm23 : ∀ p : Nat, p < 8 → frmB 8 (pg23 8) (p : Int) = true := by decide +kernel
theorem own_any {pa n : Nat} (h : pa + n ≤ 512) : ownB 8 (pg23 8) pa (n : Int) = true := ownB_nat.2 ⟨h, fun i hi => frm23 _ (by omega)⟩
theorem rdv_wrF {fr : List Frm} (hF : Frs fr) (hl : fr.length = 8) {pa a : Nat} {bs : List Nat} (hb : By bs) (hpa : pa + bs.length ≤ 512) (ha : a < 512) :
    rdv (wrF fr (pg23 8) pa bs) (pg23 8) a = if pa ≤ a ∧ a < pa + bs.length then bs.getD (a - pa) 0 else rdv fr (pg23 8) a := by
  rw [wrF, hl, if_pos (own_any hpa), rdv_wrK hF hl hb hpa ha _ (Nat.le_refl _)]
theorem doneV {fr : List Frm} (hF : Frs fr) (hl : fr.length = 8) {i h t d : Nat} (hi : i < 60000) (hd : d < 4096) :
    ∃ fr' d', dnX fr (pg23 8) d (tq 4 (i + 1) i) h t = ⟨0, tq 4 (i + 1) (i + 1), fr', d'⟩ ∧ Frs fr' ∧ fr'.length = 8 ∧ d' < 4096 ∧ (∀ a, a < 192 → rdv fr' (pg23 8) a = rdv fr (pg23 8) a) ∧ (∀ a, 228 ≤ a → a < 512 → rdv fr' (pg23 8) a = rdv fr (pg23 8) a) ∧
      fr' = wrF (wrF (wrF fr (pg23 8) (4 * (49 + 2 * (i % 4))) (bytesL [h])) (pg23 8) (4 * (50 + 2 * (i % 4))) (bytesL [t])) (pg23 8) (4 * 48) (bytesL [i + 1]) := by
  have hm := Nat.mod_lt i (show 0 < 4 by omega)
  have hA : dnA (tq 4 (i + 1) i) = 4 * (49 + 2 * (i % 4)) := by show 192 + 4 + 8 * (i % 4) = _; omega
  have o1 : ownB fr.length (pg23 8) (dnA (tq 4 (i + 1) i)) 4 = true := by rw [hl, hA]; exact own23 _ (by omega)
  have o2 : ownB fr.length (pg23 8) (dnA (tq 4 (i + 1) i) + 4) 4 = true := by rw [hl, hA, show 4 * (49 + 2 * (i % 4)) + 4 = 4 * (50 + 2 * (i % 4)) by omega]; exact own23 _ (by omega)
  have o3 : ownB fr.length (pg23 8) (tq 4 (i + 1) i).r.used 4 = true := by rw [hl]; exact own23 48 (by decide)
  have hok := dnX_ok (pg := pg23 8) (d := d) (s := tq 4 (i + 1) i) (h := h) (n := t) hF hd (tq_ok (by omega) (by omega) (by omega))
  have hX : dnX fr (pg23 8) d (tq 4 (i + 1) i) h t = ⟨0, tq 4 (i + 1) (i + 1), dnF3 fr (pg23 8) (tq 4 (i + 1) i) h t, dnD3 fr (pg23 8) d (tq 4 (i + 1) i) h t⟩ := by
    rw [dnX, if_pos (by rfl), if_pos o1, if_pos o2, if_pos o3]
    show DnR.mk 0 (tq 4 (i + 1) ((i + 1) % 65536)) _ _ = _
    rw [Nat.mod_eq_of_lt (by omega)]
  have e3 : dnF3 fr (pg23 8) (tq 4 (i + 1) i) h t = wrF (wrF (wrF fr (pg23 8) (4 * (49 + 2 * (i % 4))) (bytesL [h])) (pg23 8) (4 * (50 + 2 * (i % 4))) (bytesL [t])) (pg23 8) (4 * 48) (bytesL [i + 1]) := by
    show wrF (wrF (wrF fr (pg23 8) (dnA (tq 4 (i + 1) i)) _) (pg23 8) (dnA (tq 4 (i + 1) i) + 4) _) (pg23 8) 192 (bytesL [(i + 1) % 65536]) = _
    rw [hA, show 4 * (49 + 2 * (i % 4)) + 4 = 4 * (50 + 2 * (i % 4)) by omega, show (i + 1) % 65536 = i + 1 by omega]
  rw [hX] at hok ⊢
  obtain ⟨k1, k2, k3, _⟩ := hok
  have hn : ∀ x : Nat, (bytesL [x]).length = 4 := fun x => by rw [bytesL_len]; rfl
  obtain ⟨f1, l1⟩ := wrF_ok (pg := pg23 8) (pa := 4 * (49 + 2 * (i % 4))) (bs := bytesL [h]) hF
  rw [hl] at l1
  obtain ⟨f2, l2⟩ := wrF_ok (pg := pg23 8) (pa := 4 * (50 + 2 * (i % 4))) (bs := bytesL [t]) f1
  rw [l1] at l2
  have hr : ∀ a, a < 512 → (a < 192 ∨ 228 ≤ a) → rdv (dnF3 fr (pg23 8) (tq 4 (i + 1) i) h t) (pg23 8) a = rdv fr (pg23 8) a := fun a ha hc => by
    rw [e3, rdv_wrF f2 l2 (bytesL_by _) (by rw [hn]; omega) ha, hn, if_neg (by omega), rdv_wrF f1 l1 (bytesL_by _) (by rw [hn]; omega) ha, hn, if_neg (by omega), rdv_wrF hF hl (bytesL_by _) (by rw [hn]; omega) ha, hn, if_neg (by omega)]
  exact ⟨_, _, rfl, k1, k2.trans hl, k3, fun a ha => hr a (by omega) (.inl ha), fun a h1 ha => hr a ha (.inr h1), e3⟩
structure WMem (D : Dsc) (fr : List Frm) (p : Nat) : Prop where
  frs : Frs fr
  len : fr.length = 8
  desc : ∀ a, a < 16 → rdv fr (pg23 8) a = (putD D).getD a 0
  heads : ∀ k, k < 4 → wd fr (33 + k) = 0
  put : wd fr 32 = p
theorem WMem.keep {D : Dsc} {fr fr' : List Frm} {p : Nat} (h : WMem D fr p) (hF : Frs fr') (hl : fr'.length = 8) (hr : ∀ a, a < 192 → rdv fr' (pg23 8) a = rdv fr (pg23 8) a) : WMem D fr' p :=
  ⟨hF, hl, fun a ha => (hr a (by omega)).trans (h.desc a ha), fun k hk => (wd_congr h.len hl (by omega) fun i hi => hr _ (by omega)).trans (h.heads k hk), (wd_congr h.len hl (by omega) fun i hi => hr _ (by omega)).trans h.put⟩
end Go.Proofs.YtlnmofhehcilhaaGreat
namespace Go.Proofs.YtlnmofhehcilhaaGreat
open Go.RowKit
set_option linter.unusedSimpArgs false
set_option linter.unusedVariables false
set_option maxRecDepth 20000
theorem wdAt_mid {p q : List Nat} {i x : Nat} (hp : p.length = 4 * i) (hx : x < 4294967296) : wdAt (p ++ (leB 4 x ++ q)) i = x := by
  rw [wdAt, List.drop_left' hp, List.take_left' (leB_len 4 x), leN_leB]; exact Nat.mod_eq_of_lt (by simpa using hx)
theorem dsOf_put {d : Dsc} (h : d.ok) : dsOf (putD d) = d := by
  obtain ⟨a, b, c, e⟩ := d
  obtain ⟨h1, h2, h3, h4⟩ := h
  dsimp only at h1 h2 h3 h4
  have e0 : putD ⟨a, b, c, e⟩ = leB 4 a ++ (leB 4 b ++ (leB 4 c ++ (leB 4 e ++ []))) := rfl
  have k0 : wdAt (putD ⟨a, b, c, e⟩) 0 = a := by rw [e0]; exact wdAt_mid (p := []) rfl h1
  have k1 : wdAt (putD ⟨a, b, c, e⟩) 1 = b := by rw [e0]; exact wdAt_mid (leB_len 4 a) h2
  have k2 : wdAt (putD ⟨a, b, c, e⟩) 2 = c := by
    rw [e0, ← List.append_assoc]; exact wdAt_mid (by rw [List.length_append, leB_len, leB_len]) h3
  have k3 : wdAt (putD ⟨a, b, c, e⟩) 3 = e := by
    rw [e0, ← List.append_assoc, ← List.append_assoc]; exact wdAt_mid (by rw [List.length_append, List.length_append, leB_len, leB_len, leB_len]) h4
  rw [dsOf, k0, k1, k2, k3]
theorem wdZ4 : ∀ k, k < 4 → wd fZ (33 + k) = 0 := by decide +kernel
end Go.Proofs.YtlnmofhehcilhaaGreat
namespace Go.Proofs.YtlnmofhehcilhaaGreat
open Go.RowKit
set_option linter.unusedSimpArgs false
set_option linter.unusedVariables false
set_option maxRecDepth 20000
@[reducible] def e0 (n : Nat) : Dsc := ⟨320, n, 1, 1⟩
@[reducible] def e1 (m : Nat) : Dsc := ⟨384, m, 2, 0⟩
theorem e0_ok {n : Nat} (h : n ≤ 64) : (e0 n).ok := ⟨by show (320 : Nat) < _; decide, by show n < 4294967296; omega, by show (1 : Nat) < _; decide, by show (1 : Nat) < _; decide⟩
theorem e1_ok {n : Nat} (h : n ≤ 64) : (e1 n).ok := ⟨by show (384 : Nat) < _; decide, by show n < 4294967296; omega, by show (2 : Nat) < _; decide, by show (0 : Nat) < _; decide⟩
theorem w_e0 (n : Nat) : wrB (e0 n) = false := by rw [wrB, decide_eq_false_iff_not]; show ¬ (1 : Nat) / 2 % 2 = 1; decide
theorem w_e1 (m : Nat) : wrB (e1 m) = true := by rw [wrB, decide_eq_true_iff]; show (2 : Nat) / 2 % 2 = 1; rfl
theorem g_e0 (n : Nat) : goB (e0 n) = true := by rw [goB, decide_eq_true_iff]; show (1 : Nat) % 2 = 1; rfl
theorem g_e1 (m : Nat) : goB (e1 m) = false := by rw [goB, decide_eq_false_iff_not]; show ¬ (2 : Nat) % 2 = 1; decide
@[reducible] def gQ (b1 b2 b3 b4 c n m : Nat) (a : Option Addr) (bs : List Nat) : Gst := ⟨some ⟨b1, 0, none⟩, 2, [e0 n, e1 m], some ⟨b2, 0, none⟩, 1, [0], some ⟨b3, 0, none⟩, 1, [320], some ⟨b4, 0, none⟩, 1, [(a, c, bs)], 1⟩
structure QMem (n m : Nat) (fr : List Frm) (p : Nat) : Prop where
  frs : Frs fr
  len : fr.length = 8
  d0 : ∀ a, a < 16 → rdv fr (pg23 8) a = (putD (e0 n)).getD a 0
  d1 : ∀ a, a < 16 → rdv fr (pg23 8) (16 + a) = (putD (e1 m)).getD a 0
  heads : ∀ k, k < 4 → wd fr (33 + k) = 0
  put : wd fr 32 = p
theorem QMem.keep {n m : Nat} {fr fr' : List Frm} {p : Nat} (h : QMem n m fr p) (hF : Frs fr') (hl : fr'.length = 8) (hr : ∀ a, a < 192 → rdv fr' (pg23 8) a = rdv fr (pg23 8) a) : QMem n m fr' p :=
  ⟨hF, hl, fun a ha => (hr a (by omega)).trans (h.d0 a ha), fun a ha => (hr _ (by omega)).trans (h.d1 a ha), fun k hk => (wd_congr h.len hl (by omega) fun i hi => hr _ (by omega)).trans (h.heads k hk), (wd_congr h.len hl (by omega) fun i hi => hr _ (by omega)).trans h.put⟩
theorem rd_16 {fr : List Frm} {pa : Nat} {D : Dsc} (h : ∀ a, a < 16 → rdv fr (pg23 8) (pa + a) = (putD D).getD a 0) : rdL fr (pg23 8) pa 16 = putD D := by
  apply List.ext_getElem
  · rw [rdL_len, putD_len]
  · intro i h1 h2
    rw [rdL_len] at h1
    have hp : i < (putD D).length := by rw [putD_len]; exact h1
    simp only [rdL, List.getElem_map, List.getElem_range]
    rw [h i h1, List.getD_eq_getElem?_getD, List.getElem?_eq_getElem hp]; rfl
theorem lk_Q0 {n m p : Nat} {fr : List Frm} (hn : n ≤ 64) (h : QMem n m fr p) : lk fr (pg23 8) r27 0 0 false = (e0 n, 0) := by
  have hD := dsOf_put (e0_ok hn)
  have hrd : rdL fr (pg23 8) 0 16 = putD (e0 n) := rd_16 fun a ha => by rw [Nat.zero_add]; exact h.d0 a ha
  have o1 : ownB fr.length (pg23 8) 0 16 = true := by rw [h.len]; exact own_any (pa := 0) (n := 16) (by decide)
  have hat : dsAt fr (pg23 8) r27 0 = e0 n := by rw [dsAt, show dsPa r27 0 = 0 from rfl, if_pos o1, hrd, hD]
  have o2 : ownB fr.length (pg23 8) 320 (n : Int) = true := by rw [h.len]; exact own_any (by omega)
  have hc : chkC (e0 n) 4 = 0 := by
    rw [chkC, if_neg (by show ¬ 4 ≤ 1; decide), if_neg (by show ¬ 64 < n; omega), if_neg (by show ¬ (1 % 2 = 1 ∧ (4 : Nat) ≤ 1); decide)]
  rw [lk, if_neg (by show ¬ ((0 : Int) < 0 ∨ ((4 : Nat) : Int) ≤ 0); decide), if_neg (by show ¬ ((4 : Nat) : Int) ≤ ((0 : Nat) : Int); decide), show dsPa r27 (0 : Int).toNat = 0 from rfl, if_neg (by rw [o1]; decide), show (0 : Int).toNat = 0 from rfl, hat, show (r27.n).toNat = 4 from rfl, if_neg (by rw [hc]; decide), if_neg (by rw [show (e0 n).addr = 320 from rfl, show (e0 n).len = n from rfl, o2]; decide), if_neg (by simp)]
theorem lk_Q1 {n m p : Nat} {fr : List Frm} (hm : m ≤ 64) (h : QMem n m fr p) : lk fr (pg23 8) r27 1 1 false = (e1 m, 0) := by
  have hD := dsOf_put (e1_ok hm)
  have hrd : rdL fr (pg23 8) 16 16 = putD (e1 m) := rd_16 h.d1
  have o1 : ownB fr.length (pg23 8) 16 16 = true := by rw [h.len]; exact own_any (pa := 16) (n := 16) (by decide)
  have hat : dsAt fr (pg23 8) r27 1 = e1 m := by rw [dsAt, show dsPa r27 1 = 16 from rfl, if_pos o1, hrd, hD]
  have o2 : ownB fr.length (pg23 8) 384 (m : Int) = true := by rw [h.len]; exact own_any (by omega)
  have hc : chkC (e1 m) 4 = 0 := by
    rw [chkC, if_neg (by show ¬ 4 ≤ 2; decide), if_neg (by show ¬ 64 < m; omega), if_neg (by show ¬ (2 % 2 = 1 ∧ (4 : Nat) ≤ 0); decide)]
  rw [lk, if_neg (by show ¬ ((1 : Int) < 0 ∨ ((4 : Nat) : Int) ≤ 1); decide), if_neg (by show ¬ ((4 : Nat) : Int) ≤ ((1 : Nat) : Int); decide), show dsPa r27 (1 : Int).toNat = 16 from rfl, if_neg (by rw [o1]; decide), show (1 : Int).toNat = 1 from rfl, hat, show (r27.n).toNat = 4 from rfl, if_neg (by rw [hc]; decide), if_neg (by rw [show (e1 m).addr = 384 from rfl, show (e1 m).len = m from rfl, o2]; decide), if_neg (by simp)]
theorem wk_Q {n m p : Nat} {fr : List Frm} (hn : n ≤ 64) (hm : m ≤ 64) (h : QMem n m fr p) : wkAll fr (pg23 8) r27 0 = ([e0 n, e1 m], 0) := by
  have k0 : lkN fr (pg23 8) r27 0 0 = (e0 n, 0) := lk_Q0 hn h
  have s1 : wkSt fr (pg23 8) r27 0 1 = (1, false, [e0 n]) := by
    show (((lkN fr (pg23 8) r27 0 0).1.next : Int), wrB (lkN fr (pg23 8) r27 0 0).1, ([] : List Dsc) ++ [(lkN fr (pg23 8) r27 0 0).1]) = _
    rw [k0]
    show (((1 : Nat) : Int), wrB (e0 n), [e0 n]) = _
    rw [w_e0]; rfl
  have k1 : lkN fr (pg23 8) r27 0 1 = (e1 m, 0) := by
    show lkS fr (pg23 8) r27 1 (wkSt fr (pg23 8) r27 0 1) = _
    rw [s1]; exact lk_Q1 hm h
  rw [wkAll, if_pos (by decide), wkGo_end (n := 1) (fun j hj => by
    obtain rfl : j = 0 := by omega
    rw [k0]; exact ⟨rfl, g_e0 n⟩) (by decide) (by rw [k1]) (by rw [k1]; exact g_e1 m)]
  show ((wkSt fr (pg23 8) r27 0 1).2.2 ++ [(lkN fr (pg23 8) r27 0 1).1], (0 : Int)) = _
  rw [s1, k1]; rfl
theorem tk_Q {n m : Nat} {fr : List Frm} (hn : n ≤ 64) (hm : m ≤ 64) (h : QMem n m fr 1) (q : Nat) :
    tkR fr (pg23 8) (tq 4 0 q) = (0, [e0 n, e1 m], true, 0) ∧ tkS fr (pg23 8) (tq 4 0 q) = tq 4 1 q := by
  have k := hdT h.frs h.len (last := 0) (n := 4) (by omega)
  rw [h.put, show wtN 0 1 = 1 by decide, if_neg (by omega), if_neg (by omega), h.heads _ (show 0 % 4 < 4 by decide), if_neg (by omega)] at k
  obtain ⟨h1, h2⟩ := nx_tq (p := q) k
  have h1' : nxR fr (pg23 8) (tq 4 0 q) = (0, true, 0) := h1
  have h2' : nxS fr (pg23 8) (tq 4 0 q) = tq 4 1 q := h2
  have hL : tkL fr (pg23 8) (tq 4 0 q) = ([e0 n, e1 m], 0) := by rw [tkL, h1']; exact wk_Q hn hm h
  constructor
  · rw [tkR, h1', hL, if_pos rfl, if_neg (by simp)]
  · rw [tkS, h1', hL, if_pos rfl, if_neg (by simp), h2']
theorem tk_Q0 {n m i : Nat} {fr : List Frm} (h : QMem n m fr i) (hi : i < 60000) (q : Nat) : tkR fr (pg23 8) (tq 4 i q) = (0, [], false, 0) ∧ tkS fr (pg23 8) (tq 4 i q) = tq 4 i q := by
  obtain ⟨h1, h2⟩ := stepT0 h.frs h.len (n := 4) (i := i) (p := q) (by omega) hi h.put
  constructor
  · rw [tkR, h1, if_neg (by decide)]
  · rw [tkS, h1, if_neg (by decide), h2]
theorem gth_Q {n m : Nat} {fr : List Frm} {T : List Nat} (hT : rdO fr (pg23 8) 320 (n : Int) = T) (hl : T.length ≤ 512) : bkG fr (pg23 8) [e0 n, e1 m] = T := by
  have w0 := w_e0 n
  have w1 := w_e1 m
  rw [bkG, show [e0 n, e1 m].length = 0 + 1 + 1 from rfl, gthK, gthK]
  simp only [List.getD_cons_zero, List.getD_cons_succ]
  rw [w1, if_pos rfl, w0, if_neg (by decide)]
  show ([] : List Nat) ++ (rdO fr (pg23 8) 320 (n : Int)).take (roomN 512 0) = _
  rw [hT, List.nil_append, show roomN 512 0 = 512 from rfl, List.take_of_length_le hl]
theorem len_Q (n m : Nat) : lenW [e0 n, e1 m] true = m := by
  simp only [lenW, List.map_cons, List.map_nil, List.sum_cons, List.sum_nil]
  rw [w_e0, w_e1, if_neg (by decide), if_pos rfl]; omega
theorem sc_Q {n m d : Nat} {fr : List Frm} (f : Nat) {bs : List Nat} (hl : fr.length = 8) (hm : m ≤ 64) (hf : f + bs.length ≤ m) :
    (scK fr (pg23 8) d [e0 n, e1 m] (f : Int) bs 2).2.1 = bs.length ∧ (scK fr (pg23 8) d [e0 n, e1 m] (f : Int) bs 2).2.2.1 = wrF fr (pg23 8) (384 + f) bs := by
  have o2 : ownB fr.length (pg23 8) 384 (m : Int) = true := by rw [hl]; exact own_any (by omega)
  have hs : scK fr (pg23 8) d [e0 n, e1 m] (f : Int) bs 2 = scStep (pg23 8) bs (e1 m) (scStep (pg23 8) bs (e0 n) (f, 0, fr, d)) := rfl
  have h0 : scStep (pg23 8) bs (e0 n) (f, 0, fr, d) = (f, 0, fr, d) := by
    rw [scStep, if_neg (by rintro ⟨q, _⟩; rw [w_e0] at q; cases q)]
  rw [hs, h0, scStep, if_pos ⟨w_e1 m, o2⟩]
  have k1 : min f m = f := by omega
  have k2 : min (m - f) (bs.length - 0) = bs.length := by omega
  constructor
  · show 0 + min (m - min f m) (bs.length - 0) = _; rw [k1, k2]; omega
  · show wrF fr (pg23 8) (384 + min f m) ((bs.drop 0).take (min (m - min f m) (bs.length - 0))) = _
    rw [k1, k2, List.drop_zero, List.take_of_length_le (Nat.le_refl _)]
def kQ (w : Int) : Dk := ⟨[(0, 32, 0)], [w], List.replicate 32 z16⟩
theorem lbW_kQ {w : Int} {n : Nat} (hn : n < 32) : lbW (kQ w) (n : Int) = some w := by
  have h : whR [((0 : Int), (32 : Int), (0 : Int))] 32 (n : Int) = some 0 := by
    rw [whR, if_neg (by omega), whF, if_pos (by constructor <;> simp <;> omega)]
  show (whR [((0 : Int), (32 : Int), (0 : Int))] 32 (n : Int)).map _ = _
  rw [h]; rfl
theorem lbW_cong' {x z : Dk} (h1 : x.rs = z.rs) (h2 : x.lb = z.lb) (i : Int) : lbW x i = lbW z i := by rw [lbW, lbW, h1, h2]
theorem lbW_kS {w : Int} {n k : Nat} {b : List Nat} (hn : n < 32) : lbW (dkSet (kQ w) k b) (n : Int) = some w := by
  rw [← lbW_kQ (w := w) hn]; exact lbW_cong' rfl rfl _
theorem wd_Q {w n : Nat} (hw : w < 256) (hn : n < 256) (t : List Nat) : wdAt (([w, 0, 0, 0, n, 0, 0, 0] ++ t).take 8) 0 = w ∧ wdAt (([w, 0, 0, 0, n, 0, 0, 0] ++ t).take 8) 1 = n := by
  have h : ([w, 0, 0, 0, n, 0, 0, 0] ++ t).take 8 = [w, 0, 0, 0, n, 0, 0, 0] := rfl
  rw [h]
  constructor
  · show leN [w, 0, 0, 0] = w
    simp [leN]
  · show leN [n, 0, 0, 0] = n
    simp [leN]
theorem go_Q {who : Int} {n m d : Nat} {fr fr2 : List Frm} {x : Dk} {r : BlR} (hn : n ≤ 64) (hm : m ≤ 64) (h1 : 1 ≤ m) (h : QMem n m fr 1) {T : List Nat} (hT : rdO fr (pg23 8) 320 (n : Int) = T) (hT8 : 8 ≤ T.length) (hT64 : T.length ≤ 64)
    (hr : bkDo (pg23 8) who (wdAt (T.take 8) 1 : Nat) (wdAt (T.take 8) 0) m [e0 n, e1 m] (T.drop 8) x fr d = r) (hF : Frs r.fr) (hl : r.fr.length = 8) (hrd : r.d < 4096) (hrt : r.t ≤ 64) (hh : r.how < 256) (hk : ∀ a, a < 192 → rdv r.fr (pg23 8) a = rdv fr (pg23 8) a) (h2 : wrF r.fr (pg23 8) (384 + (m - 1)) [r.how] = fr2) :
    ∃ fr' d', sbGo (pg23 8) who 4 ⟨fr, d, q27, x, 0, 0, 0, 0⟩ = ⟨fr', d', tq 4 1 1, r.x, 1, 2, r.m, 0⟩ ∧ Frs fr' ∧ fr'.length = 8 ∧ d' < 4096 ∧ (∀ a, 228 ≤ a → a < 512 → rdv fr' (pg23 8) a = rdv fr2 (pg23 8) a) := by
  obtain ⟨t1, t2⟩ := tk_Q hn hm h 0
  have hG := gth_Q (m := m) hT (by omega)
  have hL := len_Q n m
  have hB : bkB_ fr (pg23 8) [e0 n, e1 m] = true := by
    rw [bkB_, hG, hL]; exact decide_eq_true ⟨hT8, h1⟩
  have hsc := sc_Q (n := n) (m := m) (d := r.d) (fr := r.fr) (m - 1) (bs := [r.how]) hl hm (by show m - 1 + 1 ≤ m; omega)
  have hso := scK_ok (pg := pg23 8) (l := [e0 n, e1 m]) (from_ := ((m - 1 : Nat) : Int)) (bs := [r.how]) hF hrd 2
  rw [h2] at hsc
  have hF2 : Frs fr2 := by rw [← hsc.2]; exact hso.frs
  have hl2 : fr2.length = 8 := by rw [← hsc.2]; exact hso.len.trans hl
  have hd2 := hso.d
  have hk2 : ∀ a, a < 192 → rdv fr2 (pg23 8) a = rdv r.fr (pg23 8) a := fun a ha => by
    rw [← h2, rdv_wrF hF hl (fun y hy => by simp at hy; omega) (by show 384 + (m - 1) + 1 ≤ 512; omega) (by omega), if_neg (by omega)]
  obtain ⟨fr', d', y1, y2, y3, y4, y5, y6, _⟩ := doneV (fr := fr2) hF2 hl2 (i := 0) (h := u32N ((0 : Nat) : Int)) (t := u32N ((r.t + 1 : Nat) : Int)) (by decide) hd2
  have hone : bkOne (pg23 8) who 0 [e0 n, e1 m] (tq 4 1 0) x fr d = ⟨r.m, 0, fr', d', tq 4 1 1, r.x⟩ := by
    have hO1 : bkO1 (pg23 8) who [e0 n, e1 m] x fr d = r := by rw [← hr]; unfold bkO1; rw [hG, hL]
    have hO2 : (bkO2 (pg23 8) [e0 n, e1 m] r).2.2.1 = fr2 := by
      unfold bkO2; rw [hL]; exact hsc.2
    rw [bkOne, if_pos hB, hO1]
    unfold bkO3
    rw [hO2]
    have hO4 : (bkO2 (pg23 8) [e0 n, e1 m] r).2.2.2 = (scK r.fr (pg23 8) r.d [e0 n, e1 m] ((m - 1 : Nat) : Int) [r.how] 2).2.2.2 := by
      unfold bkO2; rw [hL]; rfl
    rw [hO4, y1]
  have hst := sbSt_eq (pg23 8) who ⟨fr, d, q27, x, 0, 0, 0, 0⟩
  dsimp only [sbO] at hst
  rw [show q27 = tq 4 0 0 from rfl] at hst ⊢
  rw [t1, t2, if_pos rfl] at hst
  dsimp only at hst
  rw [hone] at hst
  dsimp only at hst
  have hQ2 : QMem n m fr' 1 := h.keep y2 y3 fun a ha => (y5 a ha).trans ((hk2 a ha).trans (hk a ha))
  obtain ⟨u1, u2⟩ := tk_Q0 (i := 1) hQ2 (by decide) 1
  have hst2 := sbSt_eq (pg23 8) who ⟨fr', d', tq 4 1 1, r.x, 0 + 1, 0 + 2, 0 + r.m, 0⟩
  dsimp only [sbO] at hst2
  rw [u1, u2, if_neg (by decide)] at hst2
  refine ⟨fr', d', ?_, y2, y3, y4, y6⟩
  rw [sbGo_go (by decide) (by rw [hst]; rfl), hst]
  show sbGo (pg23 8) who 3 ⟨fr', d', tq 4 1 1, r.x, 0 + 1, 0 + 2, 0 + r.m, 0⟩ = _
  rw [sbGo_stop (by decide) (by rw [hst2]), hst2, Nat.zero_add, Nat.zero_add, Nat.zero_add]
theorem go_wr {who w : Int} {n d : Nat} {fr : List Frm} {b : List Nat} (hw : flB who w = true) (hn : n < 32) (hb : b.length = 16) (hbb : By b) (hd : d < 4096) (h : QMem 24 1 fr 1) (hT : rdO fr (pg23 8) 320 ((24 : Nat) : Int) = [1, 0, 0, 0, n, 0, 0, 0] ++ b) :
    ∃ fr' d', sbGo (pg23 8) who 4 ⟨fr, d, q27, kQ w, 0, 0, 0, 0⟩ = ⟨fr', d', tq 4 1 1, dkSet (kQ w) n b, 1, 2, 16, 0⟩ := by
  obtain ⟨k1, k2⟩ := wd_Q (w := 1) (n := n) (by decide) (by omega) b
  have hdr : ([1, 0, 0, 0, n, 0, 0, 0] ++ b).drop 8 = b := rfl
  have hE : wrDE (kQ w) who ((n : Int) + ((0 : Nat) : Int)) 16 = 0 := by
    rw [wrDE, show (n : Int) + ((0 : Nat) : Int) = (n : Int) by omega, lbW_kQ hn]; exact (if_pos hw).trans (if_pos rfl)
  have hG : wrG (kQ w) who (n : Int) b 1 = (dkSet (kQ w) n b, none) := by
    rw [wrG]
    show (if wrDE (kQ w) who ((n : Int) + ((0 : Nat) : Int)) ((b.drop (16 * 0)).take 16).length = 0 then (wrDk (kQ w) who ((n : Int) + ((0 : Nat) : Int)) ((b.drop (16 * 0)).take 16), none) else (kQ w, some (16 * 0))) = _
    rw [show (b.drop (16 * 0)).take 16 = b by rw [Nat.mul_zero, List.drop_zero, List.take_of_length_le (by omega)], hb, if_pos hE, wrDk, hb, if_pos hE, show ((n : Int) + ((0 : Nat) : Int)).toNat = n by omega]
  have hdo : bkDo (pg23 8) who (wdAt (([1, 0, 0, 0, n, 0, 0, 0] ++ b).take 8) 1 : Nat) (wdAt (([1, 0, 0, 0, n, 0, 0, 0] ++ b).take 8) 0) 1 [e0 24, e1 1] (([1, 0, 0, 0, n, 0, 0, 0] ++ b).drop 8) (kQ w) fr d = ⟨0, 16, 0, fr, d, dkSet (kQ w) n b⟩ := by
    rw [k1, k2, hdr, bkDo, if_neg (by decide), if_pos rfl, bkWr, hb, if_pos (by decide), show 16 / 16 = 1 from rfl, hG]
  obtain ⟨fr', d', g, _⟩ := go_Q (who := who) (x := kQ w) (r := ⟨0, 16, 0, fr, d, dkSet (kQ w) n b⟩) (by decide) (by decide) (by decide) h hT (by rw [List.length_append, hb]; show 8 ≤ 8 + 16; decide) (by rw [List.length_append, hb]; show 8 + 16 ≤ 64; decide) hdo h.frs h.len hd (by show 0 ≤ 64; decide) (by show 0 < 256; decide) (fun _ _ => rfl) rfl
  exact ⟨fr', d', g⟩
theorem rd_list {fr : List Frm} (hl : fr.length = 8) {pa : Nat} {l : List Nat} (h : pa + l.length ≤ 512) (hr : ∀ i, i < l.length → rdv fr (pg23 8) (pa + i) = l.getD i 0) : rdO fr (pg23 8) pa (l.length : Int) = l := by
  rw [rdO, hl, if_pos (own_any (by omega))]
  apply List.ext_getElem
  · rw [rdL_len]; simp
  · intro i h1 h2
    simp only [rdL, List.getElem_map, List.getElem_range]
    rw [hr i h2, List.getD_eq_getElem?_getD, List.getElem?_eq_getElem h2]; rfl
theorem rdG_1 {x : Dk} {who : Int} {n : Nat} : rdG x who (n : Int) 1 = if rdE x who (n : Int) = 0 then some (secD x.ss n) else none := by
  show (if rdE x who ((n : Int) + ((0 : Nat) : Int)) = 0 then some ([] ++ secD x.ss ((n : Int) + ((0 : Nat) : Int)).toNat) else none) = _
  rw [show (n : Int) + ((0 : Nat) : Int) = (n : Int) by omega, Int.toNat_natCast, List.nil_append]
theorem go_rd {who w : Int} {n d : Nat} {fr : List Frm} {x : Dk} {b : List Nat} (hx : lbW x (n : Int) = some w) (hs : secD x.ss n = b) (hw : flB w who = true) (hn : n < 32) (hb : b.length = 16) (hbb : By b) (hd : d < 4096) (h : QMem 8 17 fr 1) (hT : rdO fr (pg23 8) 320 ((8 : Nat) : Int) = [0, 0, 0, 0, n, 0, 0, 0] ++ []) :
    ∃ fr' d', sbGo (pg23 8) who 4 ⟨fr, d, q27, x, 0, 0, 0, 0⟩ = ⟨fr', d', tq 4 1 1, x, 1, 2, 16, 0⟩ ∧ rdO fr' (pg23 8) 384 17 = b ++ [0] := by
  obtain ⟨k1, k2⟩ := wd_Q (w := 0) (n := n) (by decide) (by omega) []
  have hE : rdE x who (n : Int) = 0 := by rw [rdE, hx]; exact if_pos hw
  obtain ⟨s1, s2⟩ := sc_Q (n := 8) (m := 17) (d := d) (fr := fr) 0 (bs := b) h.len (by decide) (by omega)
  obtain ⟨d1, hd1⟩ : ∃ d1, (scK fr (pg23 8) d [e0 8, e1 17] ((0 : Nat) : Int) b 2).2.2.2 = d1 := ⟨_, rfl⟩
  have hdo : bkDo (pg23 8) who (wdAt (([0, 0, 0, 0, n, 0, 0, 0] ++ []).take 8) 1 : Nat) (wdAt (([0, 0, 0, 0, n, 0, 0, 0] ++ []).take 8) 0) 17 [e0 8, e1 17] (([0, 0, 0, 0, n, 0, 0, 0] ++ []).drop 8) x fr d = ⟨0, 16, 16, wrF fr (pg23 8) 384 b, d1, x⟩ := by
    rw [k1, k2, bkDo, if_pos rfl, bkRd, if_pos (by decide), show (17 - 1) / 16 = 1 from rfl, rdG_1, if_pos hE, hs]
    show BlR.mk 0 (scK fr (pg23 8) d [e0 8, e1 17] ((0 : Nat) : Int) b 2).2.1 (scK fr (pg23 8) d [e0 8, e1 17] ((0 : Nat) : Int) b 2).2.1 (scK fr (pg23 8) d [e0 8, e1 17] ((0 : Nat) : Int) b 2).2.2.1 (scK fr (pg23 8) d [e0 8, e1 17] ((0 : Nat) : Int) b 2).2.2.2 x = _
    rw [s1, s2, hd1, hb]
  have hF1 : Frs (wrF fr (pg23 8) 384 b) := (wrF_ok h.frs).1
  have hl1 : (wrF fr (pg23 8) 384 b).length = 8 := (wrF_ok h.frs).2.trans h.len
  have hdd : d1 < 4096 := by
    rw [← hd1]; exact (scK_ok (pg := pg23 8) (l := [e0 8, e1 17]) (from_ := ((0 : Nat) : Int)) (bs := b) h.frs hd 2).d
  obtain ⟨fr', d', g, g2, g3, g4, g5⟩ := go_Q (who := who) (x := x) (r := ⟨0, 16, 16, wrF fr (pg23 8) 384 b, d1, x⟩) (by decide) (by decide) (by decide) h hT (by show 8 ≤ 8; decide) (by show 8 ≤ 64; decide) hdo hF1 hl1 hdd (by show 16 ≤ 64; decide) (by show 0 < 256; decide) (fun a ha => by
    show rdv (wrF fr (pg23 8) 384 b) (pg23 8) a = _
    rw [rdv_wrF h.frs h.len hbb (by omega) (by omega), if_neg (by omega)]) rfl
  refine ⟨fr', d', g, ?_⟩
  have hL : (b ++ [0]).length = 17 := by rw [List.length_append, hb]; rfl
  have := rd_list g3 (pa := 384) (l := b ++ [0]) (by rw [hL]; decide) fun i hi => by
    rw [hL] at hi
    rw [g5 _ (by omega) (by omega)]
    show rdv (wrF (wrF fr (pg23 8) 384 b) (pg23 8) (384 + (17 - 1)) [0]) (pg23 8) (384 + i) = _
    rw [rdv_wrF hF1 hl1 (fun y hy => by simp at hy; omega) (by decide) (by omega), rdv_wrF h.frs h.len hbb (by omega) (by omega)]
    by_cases q : i < 16
    · rw [if_neg (by show ¬ (400 ≤ 384 + i ∧ _); omega), if_pos (by omega), show 384 + i - 384 = i by omega]
      simp [List.getD, List.getElem?_append_left (show i < b.length by omega)]
    · obtain rfl : i = 16 := by omega
      rw [if_pos (by show 400 ≤ 384 + 16 ∧ 384 + 16 < 400 + 1; decide)]
      simp [List.getD, hb]
  rw [hL] at this
  exact this
theorem go_no {who w : Int} {n d : Nat} {fr : List Frm} {x : Dk} (hx : lbW x (n : Int) = some w) (hw : ¬ flB w who = true) (hn : n < 32) (hd : d < 4096) (h : QMem 8 17 fr 1) (hT : rdO fr (pg23 8) 320 ((8 : Nat) : Int) = [0, 0, 0, 0, n, 0, 0, 0] ++ []) :
    ∃ fr' d', sbGo (pg23 8) who 4 ⟨fr, d, q27, x, 0, 0, 0, 0⟩ = ⟨fr', d', tq 4 1 1, x, 1, 2, 0, 0⟩ ∧ ∃ t, t.length = 16 ∧ rdO fr' (pg23 8) 384 17 = t ++ [1] := by
  obtain ⟨k1, k2⟩ := wd_Q (w := 0) (n := n) (by decide) (by omega) []
  have hE : ¬ rdE x who (n : Int) = 0 := by
    rw [rdE, hx]
    show ¬ (if flB w who = true then (0 : Int) else 8) = 0
    rw [if_neg hw]; decide
  have hdo : bkDo (pg23 8) who (wdAt (([0, 0, 0, 0, n, 0, 0, 0] ++ []).take 8) 1 : Nat) (wdAt (([0, 0, 0, 0, n, 0, 0, 0] ++ []).take 8) 0) 17 [e0 8, e1 17] (([0, 0, 0, 0, n, 0, 0, 0] ++ []).drop 8) x fr d = ⟨1, 0, 0, fr, d, x⟩ := by
    rw [k1, k2, bkDo, if_pos rfl, bkRd, if_pos (by decide), show (17 - 1) / 16 = 1 from rfl, rdG_1, if_neg hE]
  obtain ⟨fr', d', g, g2, g3, g4, g5⟩ := go_Q (who := who) (x := x) (r := ⟨1, 0, 0, fr, d, x⟩) (by decide) (by decide) (by decide) h hT (by show 8 ≤ 8; decide) (by show 8 ≤ 64; decide) hdo h.frs h.len hd (by show 0 ≤ 64; decide) (by show 1 < 256; decide) (fun _ _ => rfl) rfl
  refine ⟨fr', d', g, (List.range 16).map (fun i => rdv fr' (pg23 8) (384 + i)), by simp, ?_⟩
  have hL : ((List.range 16).map (fun i => rdv fr' (pg23 8) (384 + i)) ++ [1]).length = 17 := by simp
  have := rd_list g3 (pa := 384) (l := (List.range 16).map (fun i => rdv fr' (pg23 8) (384 + i)) ++ [1]) (by rw [hL]; decide) fun i hi => by
    rw [hL] at hi
    by_cases q : i < 16
    · simp [List.getD, List.getElem?_append_left, q]
    · obtain rfl : i = 16 := by omega
      rw [g5 _ (by omega) (by omega)]
      show rdv (wrF fr (pg23 8) (384 + (17 - 1)) [1]) (pg23 8) (384 + 16) = _
      rw [rdv_wrF h.frs h.len (fun y hy => by simp at hy; omega) (by decide) (by omega), if_pos (by show 400 ≤ 384 + 16 ∧ 384 + 16 < 400 + 1; decide)]
      simp [List.getD]
  rw [hL] at this
  exact this
theorem mk_Q (b1 b2 b3 b4 c n m : Nat) (a : Option Addr) (bs : List Nat) : (mk27 (gQ b1 b2 b3 b4 c n m a bs)).1 = vsvF (vsvF (wrF (wrF (wrF fZ (pg23 8) 320 bs) (pg23 8) 0 (putD (e0 n))) (pg23 8) 16 (putD (e1 m))) (pg23 8) 132 4 0) (pg23 8) 128 4 1 := by
  obtain ⟨g, hg⟩ : ∃ g, gQ b1 b2 b3 b4 c n m a bs = g := ⟨_, rfl⟩
  have hA : g.A = [320] := by rw [← hg]
  have hB : g.B = [(a, c, bs)] := by rw [← hg]
  have hL : g.L = [e0 n, e1 m] := by rw [← hg]
  have hH : g.H = [0] := by rw [← hg]
  have hp : g.p = 1 := by rw [← hg]
  rw [hg, mk27, mgP, hH, hp, show min [0].length 4 = 0 + 1 from rfl, mgH, mgH, hH, hL, show min [e0 n, e1 m].length 8 = 0 + 1 + 1 from rfl, mgD, mgD, mgD, hL, mgN, hA, hB, show min (min [(a, c, bs)].length [320].length) 20 = 0 + 1 from rfl, mgA, mgA, hA, hB]
  simp only [List.getD_cons_zero, List.getD_cons_succ, Nat.mul_zero, Nat.add_zero]
  rfl
theorem mem_Q {b1 b2 b3 b4 c n m : Nat} {a : Option Addr} {bs : List Nat} (hn : n ≤ 64) (hm : m ≤ 64) (hb : By bs) (hl : bs.length ≤ 64) :
    QMem n m (mk27 (gQ b1 b2 b3 b4 c n m a bs)).1 1 ∧ ∀ i, i < bs.length → rdv (mk27 (gQ b1 b2 b3 b4 c n m a bs)).1 (pg23 8) (320 + i) = bs.getD i 0 := by
  have hF0 : Frs fZ := fZ_ok
  have hl0 : fZ.length = 8 := rfl
  have hpl : (putD (e0 n)).length = 16 := putD_len _
  have hpl1 : (putD (e1 m)).length = 16 := putD_len _
  have hpb : By (putD (e0 n)) := bytesL_by _
  have hpb1 : By (putD (e1 m)) := bytesL_by _
  obtain ⟨hF1, l1⟩ := wrF_ok (pg := pg23 8) (pa := 320) (bs := bs) hF0
  rw [hl0] at l1
  obtain ⟨hFa, la⟩ := wrF_ok (pg := pg23 8) (pa := 0) (bs := putD (e0 n)) hF1
  rw [l1] at la
  obtain ⟨hF2, l2⟩ := wrF_ok (pg := pg23 8) (pa := 16) (bs := putD (e1 m)) hFa
  rw [la] at l2
  have r2 : ∀ a', a' < 512 → rdv (wrF (wrF (wrF fZ (pg23 8) 320 bs) (pg23 8) 0 (putD (e0 n))) (pg23 8) 16 (putD (e1 m))) (pg23 8) a' = if a' < 16 then (putD (e0 n)).getD a' 0 else if a' < 32 then (putD (e1 m)).getD (a' - 16) 0 else if 320 ≤ a' ∧ a' < 320 + bs.length then bs.getD (a' - 320) 0 else rdv fZ (pg23 8) a' := fun a' ha => by
    rw [rdv_wrF hFa la hpb1 (by rw [hpl1]; omega) ha, hpl1, rdv_wrF hF1 l1 hpb (by rw [hpl]; omega) ha, hpl, rdv_wrF hF0 hl0 hb (by omega) ha]
    by_cases q : a' < 16
    · rw [if_neg (by omega), if_pos ⟨by omega, by omega⟩, if_pos q, Nat.sub_zero]
    · by_cases q2 : a' < 32
      · rw [if_pos ⟨by omega, by omega⟩, if_neg q, if_pos q2]
      · rw [if_neg (by omega), if_neg (by omega), if_neg q, if_neg q2]
  rw [mk_Q]
  generalize wrF (wrF (wrF fZ (pg23 8) 320 bs) (pg23 8) 0 (putD (e0 n))) (pg23 8) 16 (putD (e1 m)) = f2 at hF2 l2 r2
  have e3 : vsvF f2 (pg23 8) 132 4 0 = vsvF f2 (pg23 8) (4 * 33) 4 0 := rfl
  obtain ⟨hF3, l3⟩ := vsvF_ok (pg := pg23 8) (pa := 4 * 33) (w := 4) (x := 0) hF2
  rw [l2] at l3
  rw [e3]
  have r3 : ∀ a', a' < 512 → ¬ (132 ≤ a' ∧ a' < 136) → rdv (vsvF f2 (pg23 8) (4 * 33) 4 0) (pg23 8) a' = rdv f2 (pg23 8) a' := fun a' ha hc => by
    rw [rdv_save hF2 l2 (by decide) ha, if_neg (by omega)]
  have w3 : ∀ k, k < 4 → wd (vsvF f2 (pg23 8) (4 * 33) 4 0) (33 + k) = 0 := fun k hk => by
    rw [wd_save hF2 l2 (by decide) (by omega) (by decide)]
    split
    · rfl
    · rw [← wdZ4 k hk]
      exact wd_congr hl0 l2 (by omega) fun i hi => by rw [r2 _ (by omega), if_neg (by omega), if_neg (by omega), if_neg (by omega)]
  generalize vsvF f2 (pg23 8) (4 * 33) 4 0 = f3 at hF3 l3 r3 w3
  have e4 : vsvF f3 (pg23 8) 128 4 1 = vsvF f3 (pg23 8) (4 * 32) 4 1 := rfl
  rw [e4]
  have r4 : ∀ a', a' < 512 → ¬ (128 ≤ a' ∧ a' < 132) → rdv (vsvF f3 (pg23 8) (4 * 32) 4 1) (pg23 8) a' = rdv f3 (pg23 8) a' := fun a' ha hc => by
    rw [rdv_save hF3 l3 (by decide) ha, if_neg (by omega)]
  refine ⟨⟨(vsvF_ok hF3).1, (vsvF_ok hF3).2.trans l3, fun a' ha => ?_, fun a' ha => ?_, fun k hk => ?_, ?_⟩, fun i hi => ?_⟩
  · rw [r4 _ (by omega) (by omega), r3 _ (by omega) (by omega), r2 _ (by omega), if_pos ha]
  · rw [r4 _ (by omega) (by omega), r3 _ (by omega) (by omega), r2 _ (by omega), if_neg (by omega), if_pos (by omega), show 16 + a' - 16 = a' by omega]
  · rw [wd_save hF3 l3 (by decide) (by omega) (by decide), if_neg (by omega), w3 k hk]
  · rw [wd_save hF3 l3 (by decide) (by decide) (by decide), if_pos rfl]
  · rw [r4 _ (by omega) (by omega), r3 _ (by omega) (by omega), r2 _ (by omega), if_neg (by omega), if_neg (by omega), if_pos ⟨by omega, by omega⟩, show 320 + i - 320 = i by omega]
end Go.Proofs.YtlnmofhehcilhaaGreat
