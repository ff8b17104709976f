/-
  Part 3 of the proof of HcallZero: rules, and walks of functions. Conditions: none.
-/
import Derived.Test.YtnidndllknffgaaGreatHcallZeroB
namespace Go.Proofs.YtnidndllknffgaaGreat
open Go.RowKit
set_option linter.unusedSimpArgs false
set_option linter.unusedVariables false
set_option maxRecDepth 20000
abbrev cfO (c : Cfg) : Obj := cob (cfgV c) 29
def rlA (c : Cfg) (i : Nat) : Rn := c.rl.getD i (0, 0, 0)
def rgT (c : Cfg) : Nat → List Rn
  | 0 => []
  | i + 1 => if vaL (rlA c i).1 c.cats = true then gvR (rgT c i) 32 (rlA c i).2.1 (rlA c i).2.2 i else rgT c i
theorem rgT_ok (c : Cfg) : ∀ i, TbOk (rgT c i) ∧ (rgT c i).length ≤ i ∧ TbS (rgT c i)
  | 0 => ⟨fun x hx => by simp [rgT] at hx, Nat.le_refl _, List.Pairwise.nil⟩
  | i + 1 => by
    obtain ⟨h1, h2, h3⟩ := rgT_ok c i
    rw [rgT]; split
    · exact ⟨gvR_ok h1 (by decide), Nat.le_trans gvR_len (by omega), gvR_tbs h3 fun x hx => (h1 x hx).2.1⟩
    · exact ⟨h1, by omega, h3⟩
def rgW (c : Cfg) (i : Nat) : Bool := !(vaL (rlA c i).1 c.cats && decide (gvE (rgT c i) 32 (rlA c i).2.1 (rlA c i).2.2 i = 0))
theorem ranges1_wf (W0 : World) (b1 b4 bt : Nat) (c : Cfg) (hl : c.rl.length ≤ 8) (hs : ∀ A, SlA (OwnP W0 A) c.ra 3 gsV c.rl) :
    WF W0 248 [.pointer (some ⟨b1, 0, none⟩), .pointer (some ⟨b4, 0, none⟩)] c.rl.length (fun i => grp [pt b1 (cfO c), pt b4 (cob [.pointer (some ⟨bt, 0, none⟩)] 410), tabH bt (rgT c i, 32)]) (rgW c) := ⟨Tryz.call248, fun i hi R => by
  refine spec_kgrp ?_
  simp only [List.cons_append, List.nil_append]
  obtain ⟨g, o, hra, hc⟩ := (hs (pt b1 (cfO c) :: R)).at_ hi
  obtain ⟨x, hx⟩ : ∃ x, c.rl[i] = x := ⟨_, rfl⟩
  have hA : rlA c i = x := by simp [rlA, List.getD, hi, hx]
  rw [hx] at hc
  obtain ⟨h1, h2, h3⟩ := rgT_ok c i
  have hT : rgT c (i + 1) = if vaL x.1 c.cats = true then gvR (rgT c i) 32 x.2.1 x.2.2 i else rgT c i := by rw [rgT, hA]
  have hW : rgW c i = !(vaL x.1 c.cats && decide (gvE (rgT c i) 32 x.2.1 x.2.2 i = 0)) := by rw [rgW, hA]
  rw [hT, hW]
  generalize rgT c i = T at h1 h2 h3 ⊢
  refine spec_body Tryz.func248 Tryz.ntmps248 rfl rfl ?_
  refine x_seq (x_region (s_val rfl (v_assign rfl) (x_nil (n_then (x_seq (x_region ?_))))))
  refine s_val rfl (v_fieldAddr rfl Tryz.underlying29 rfl Tryz.sizeOf24 rfl (by first | exact Nat.zero_add _ | rfl)) ?_
  refine s_val rfl (v_load Tryz.isAgg24 rfl (cell_own rfl)) ?_
  refine s_val rfl (v_move rfl) ?_
  refine s_val rfl (v_idxA Tryz.underlying24 Tryz.sizeOf144 rfl hra rfl rfl hi (by first | exact Nat.zero_add _ | rfl)) ?_
  refine s_val rfl (v_loadAgg Tryz.isAgg144 Tryz.sizeOf144 rfl hc.weak rfl) ?_
  refine s_do rfl (d_allocA Tryz.zeroValue144) ?_
  rintro _ _ ⟨bx, rfl, rfl⟩
  refine s_do0 (d_storeAll Tryz.sizeOf144 rfl rfl rfl rfl rfl) ?_
  rintro _ _ rfl
  refine x_nil (n_then (x_seq (x_region ?_)))
  refine s_val rfl (v_fieldAddr rfl Tryz.underlying144 rfl Tryz.sizeOf3 rfl (by first | exact Nat.zero_add _ | rfl)) ?_
  refine s_val rfl (v_load Tryz.isAgg3 rfl (cell_own rfl)) ?_
  refine s_val rfl (v_fieldAddr rfl Tryz.underlying29 rfl Tryz.sizeOf3 rfl (by first | exact Nat.zero_add _ | rfl)) ?_
  refine s_val rfl (v_load Tryz.isAgg3 rfl (cell_own rfl)) ?_
  refine s_do rfl (d_call Tryz.call164 rfl (lbValid_spec W0 _ x.1 c.cats)) ?_
  rintro _ B_ ⟨rfl, hB_⟩
  obtain rfl := hB_.symm
  refine s_val rfl (v_not rfl) (s_val rfl (v_move rfl) ?_)
  refine s_or rfl rfl rfl ?_ ?_
  · intro g2_7
    have hv : vaL x.1 c.cats = false := by first | exact g2_7 | simpa using g2_7
    rw [hv]
    refine s_no rfl rfl rfl rfl (s_no rfl rfl rfl rfl (s_no rfl rfl rfl rfl (s_no rfl rfl rfl rfl (s_no rfl rfl rfl rfl (s_no rfl rfl rfl rfl (s_no rfl rfl rfl rfl (s_val rfl (v_pick_t rfl rfl) (s_val rfl (v_assign rfl) (x_nil (n_then (x_ret (x_done (.inl rfl) (.cons (r_tmp rfl) .nil) ?_))))))))))))
    refine ⟨_, ⟨?_, rfl⟩, ?_⟩
    · refine congrArg Value.bool ?_
      first
        | rfl
        | (rw [Bool.true_and, bne, Bool.eq_iff_iff]; simp)
    · first
        | (rw [if_pos rfl]; exact inferInstance)
        | (rw [if_neg (by decide)]; exact inferInstance)
  · intro g2_7
    have hv : vaL x.1 c.cats = true := by first | exact g2_7 | simpa using g2_7
    rw [hv]
    refine s_val rfl (v_load Tryz.isAgg410 rfl (cell_own rfl)) ?_
    refine s_yes rfl rfl ?_
    refine s_val rfl (v_fieldAddr rfl Tryz.underlying144 rfl Tryz.sizeOf3 rfl (by first | exact Nat.zero_add _ | rfl)) ?_
    refine s_yes rfl rfl (s_val rfl (v_load Tryz.isAgg3 rfl (cell_own rfl)) ?_)
    refine s_yes rfl rfl ?_
    refine s_val rfl (v_fieldAddr rfl Tryz.underlying144 rfl Tryz.sizeOf3 rfl (by first | exact Nat.zero_add _ | rfl)) ?_
    refine s_yes rfl rfl (s_val rfl (v_load Tryz.isAgg3 rfl (cell_own rfl)) ?_)
    refine s_yes rfl rfl (s_val rfl (v_move rfl) (s_yes rfl rfl ?_))
    refine s_do rfl (d_call1 Tryz.call249 rfl (paGive_spec W0 _ bt T 32 (by decide) h1 (by omega) x.2.1 x.2.2 i)) ?_
    rintro _ B_ ⟨rfl, hB_⟩
    obtain rfl := hB_.symm
    refine s_yes rfl rfl (s_val rfl (v_neq rfl rfl) (s_val rfl (v_pick_f rfl rfl) (s_val rfl (v_assign rfl) (x_nil (n_then (x_ret (x_done (.inl rfl) (.cons (r_tmp rfl) .nil) ?_)))))))
    refine ⟨_, ⟨?_, rfl⟩, ?_⟩
    · refine congrArg Value.bool ?_
      first
        | rfl
        | (rw [Bool.true_and, bne, Bool.eq_iff_iff]; simp)
    · first
        | (rw [if_pos rfl]; exact inferInstance)
        | (rw [if_neg (by decide)]; exact inferInstance)
  ⟩
def raW (c : Cfg) : Bool := decide (8 < c.rl.length) || anyW (rgW c) c.rl.length
theorem cfRanges_spec (W0 : World) (R : List HP) (c : Cfg) (hs : ∀ A, SlA (OwnP W0 A) c.ra 3 gsV c.rl) :
    Spec Tryz.prog W0 114 [.agg (cfgV c).toArray] R (fun v B => ∃ r, v = .tuple #[.int .i64 r, .bool (raW c)] ∧ B = R) := by
  refine spec_body Tryz.func114 Tryz.ntmps114 rfl rfl ?_
  refine x_seq (x_region (s_do rfl (d_boxA rfl) ?_))
  rintro _ _ ⟨b1, rfl, rfl⟩
  refine s_val rfl (v_assign rfl) (s_val rfl (v_assign rfl) (x_nil (n_then (x_seq (x_seq (x_region ?_))))))
  refine s_val rfl (v_fieldAddr rfl Tryz.underlying29 rfl Tryz.sizeOf24 rfl (by first | exact Nat.zero_add _ | rfl)) ?_
  refine s_val rfl (v_load Tryz.isAgg24 rfl (cell_own rfl)) ?_
  refine s_val rfl (v_len_slice Tryz.underlying24 rfl) (s_val rfl (v_gtr rfl rfl) (x_nil (n_then ?_)))
  refine x_if rfl ?_ ?_
  · intro c1
    refine x_seq (x_region (s_val rfl (v_assign rfl) (s_val rfl (v_assign rfl) (x_nil (n_then (x_ret (r_then (x_done (.inl rfl) (.cons (r_tmp rfl) (.cons (r_tmp rfl) .nil)) ?_))))))))
    rw [raW, decide_eq_true (by omega), Bool.true_or]
    exact ⟨_, ⟨0, rfl, rfl⟩, inferInstance⟩
  · intro c1
    refine x_skip (n_then (x_seq (x_region ?_)))
    refine s_do rfl (d_call Tryz.call247 rfl (paNew_spec W0 _ 32 (by decide))) ?_
    rintro _ B_ ⟨bt, rfl, hB_⟩
    obtain rfl := hB_.symm
    refine s_val rfl (v_move rfl) (s_val rfl (v_extract rfl rfl) (s_val rfl (v_extract rfl rfl) (s_do rfl (d_alloc Tryz.zeroValue410 rfl) ?_)))
    rintro _ _ ⟨b4, rfl, rfl⟩
    refine s_do0 (d_store Tryz.sizeOf410 rfl rfl rfl (Nat.le_of_ble_eq_true rfl) SetL.eq) ?_
    rintro _ _ rfl
    refine s_val rfl (v_assign rfl) (x_nil (n_then (x_seq (run_ent (B := kH 0 (grp [pt b1 (cfO c), pt b4 (cob [.pointer (some ⟨bt, 0, none⟩)] 410), tabH bt ([], 32)]) :: R) inferInstance ?_))))
    refine run_kgrp ?_
    simp only [List.cons_append, List.nil_append]
    refine x_region ?_
    refine s_val rfl (v_fieldAddr rfl Tryz.underlying29 rfl Tryz.sizeOf24 rfl (by first | exact Nat.zero_add _ | rfl)) ?_
    refine s_val rfl (v_load Tryz.isAgg24 rfl (cell_own rfl)) ?_
    refine s_val rfl (v_len_slice Tryz.underlying24 rfl) (s_val rfl (v_mkFunc rfl rfl) ?_)
    refine s_do rfl (does_ent (B := kH 0 (grp [pt b1 (cfO c), pt b4 (cob [.pointer (some ⟨bt, 0, none⟩)] 410), tabH bt ([], 32)]) :: R) inferInstance (d_call Tryz.call127 rfl (cfFirst_spec W0 R 248 [.pointer (some ⟨b1, 0, none⟩), .pointer (some ⟨b4, 0, none⟩)] c.rl.length (fun i => grp [pt b1 (cfO c), pt b4 (cob [.pointer (some ⟨bt, 0, none⟩)] 410), tabH bt (rgT c i, 32)]) (rgW c) (ranges1_wf W0 b1 b4 bt c (by omega) hs) (by omega)))) ?_
    rintro _ B_ ⟨r, rfl, hB_⟩
    obtain rfl := hB_.symm
    refine s_val rfl (v_extract rfl rfl) (s_val rfl (v_extract rfl rfl) (s_val rfl (v_assign rfl) (s_val rfl (v_assign rfl) (x_nil (n_then (x_ret (x_done (.inl rfl) (.cons (r_tmp rfl) (.cons (r_tmp rfl) .nil)) ?_)))))))
    rw [raW, decide_eq_false (by omega), Bool.false_or]
    exact ⟨_, ⟨r, rfl, rfl⟩, inferInstance⟩
def tkn (c : Cfg) (g : Int) (k : Nat) : Bool := (c.pl.take k).any fun q => decide (q.2 = g)
theorem cfTaken_spec (W0 : World) (R : List HP) (c : Cfg) (g : Int) (k : Nat) (hk : k < c.pl.length) (hl : c.pl.length ≤ 8) (hcap : c.pl.length ≤ c.pc) (hs : ∀ A, SlA (OwnP W0 A) c.pa 2 pairV c.pl) :
    Spec Tryz.prog W0 252 [.agg (cfgV c).toArray, .int .i64 g, .int .i64 k] R (fun v B => v = .bool (tkn c g k) ∧ B = R) := by
  refine spec_body Tryz.func252 Tryz.ntmps252 rfl rfl ?_
  refine x_seq (x_region (s_do rfl (d_boxA rfl) ?_))
  rintro _ _ ⟨b1, rfl, rfl⟩
  refine s_val rfl (v_assign rfl) (x_nil (n_then (x_seq (x_seq (x_region ?_)))))
  refine s_val rfl (v_fieldAddr rfl Tryz.underlying29 rfl Tryz.sizeOf25 rfl (by first | exact Nat.zero_add _ | rfl)) ?_
  refine s_val rfl (v_load Tryz.isAgg25 rfl (cell_own rfl)) ?_
  refine s_val rfl (v_move rfl) ?_
  refine s_val rfl (v_sliceH Tryz.underlying25 Tryz.sizeOf146 rfl rfl (h := k) rfl (by omega)) ?_
  refine s_val rfl (v_len_slice Tryz.underlying25 rfl) (s_val rfl (v_move rfl) (x_nil (n_then (x_block ?_))))
  refine x_loop (fun i : Nat => i ≤ k ∧ ∀ j, j < i → (c.pl.getD j (0, 0)).2 ≠ g) (fun i => [(1, .int .i64 g), (12, .slice c.pa k c.pc), (13, .int .i64 k), (14, .int .i64 i)]) (fun _ => R) (fun i => k - i) 0 ?_ ?_ ?_ ?_
  · exact ⟨Nat.zero_le _, fun j hj => absurd hj (Nat.not_lt_zero _)⟩
  · repeat (first | exact sub_nil | refine sub_cons rfl ?_)
  · exact inferInstance
  · intro i ⟨hi, hI⟩
    refine x_seq (x_region (s_val rfl (v_lss rfl rfl) (x_nil (n_then (x_seq ?_)))))
    refine x_if rfl ?_ ?_
    · intro c2
      refine x_skip (n_then (x_seq (x_block (x_seq ?_))))
      have hi1 : i < c.pl.length := by omega
      have hik : i < k := by omega
      obtain ⟨gp, o, hpa, hc⟩ := (hs R).at_ hi1
      obtain ⟨x, hx⟩ : ∃ x, c.pl[i] = x := ⟨_, rfl⟩
      have hgd : c.pl.getD i (0, 0) = x := by simp [List.getD, hi1, hx]
      rw [hx] at hc
      refine x_region ?_
      refine s_val rfl (v_idxA Tryz.underlying25 Tryz.sizeOf146 rfl hpa rfl rfl hik (by first | exact Nat.zero_add _ | rfl)) ?_
      refine s_val rfl (v_loadAgg Tryz.isAgg146 Tryz.sizeOf146 rfl hc.weak rfl) ?_
      refine s_do rfl (d_allocA Tryz.zeroValue146) ?_
      rintro _ _ ⟨bx, rfl, rfl⟩
      refine s_do0 (d_storeAll Tryz.sizeOf146 rfl rfl rfl rfl rfl) ?_
      rintro _ _ rfl
      refine x_nil (n_then (x_seq (x_region ?_)))
      refine s_val rfl (v_fieldAddr rfl Tryz.underlying146 rfl Tryz.sizeOf3 rfl (by first | exact Nat.zero_add _ | rfl)) ?_
      refine s_val rfl (v_load Tryz.isAgg3 rfl (cell_own rfl)) ?_
      refine s_val rfl (v_move rfl) (s_val rfl (v_eql rfl rfl) (x_nil (n_then ?_)))
      refine x_if rfl ?_ ?_
      · intro c4
        refine x_seq (x_region (s_val rfl (v_assign rfl) (x_nil (n_then (x_ret (r_block (r_then (r_then (r_block (r_then (x_done (.inl rfl) (.cons (r_tmp rfl) .nil) ?_)))))))))))
        have ht : tkn c g k = true := by
          rw [tkn, List.any_eq_true]
          exact ⟨x, by rw [← hx]; exact List.mem_take_iff_getElem.2 ⟨i, by omega, rfl⟩, decide_eq_true c4⟩
        rw [ht]
        exact ⟨_, ⟨rfl, rfl⟩, inferInstance⟩
      · intro c4
        refine x_skip (n_block (n_then (x_region ?_)))
        refine s_val rfl (v_add rfl rfl (by first | exact w64 (by omega) | rfl)) ?_
        refine s_val rfl (v_move rfl) (x_nil (n_then ?_))
        refine inv_intro (i + 1) ?_ ?_ ?_ ?_
        · refine ⟨by omega, fun j hj => ?_⟩
          rcases Nat.lt_or_ge j i with q | q
          · exact hI j q
          · rw [show j = i by omega, hgd]; exact c4
        · omega
        · repeat (first | exact sub_nil | refine sub_cons rfl ?_)
        · exact inferInstance
    · intro c2
      refine x_exit (e_then (e_then (e_block (n_then (x_seq (x_region (s_val rfl (v_assign rfl) (x_nil (n_then (x_ret (x_done (.inl rfl) (.cons (r_tmp rfl) .nil) ?_)))))))))))
      have ht : tkn c g k = false := by
        rw [tkn, List.any_eq_false]
        intro x hx
        obtain ⟨j, hj, rfl⟩ := List.mem_take_iff_getElem.1 hx
        have := hI j (by omega)
        rw [show c.pl.getD j (0, 0) = c.pl[j]'(by omega) by simp [List.getD, show j < c.pl.length by omega]] at this
        simpa using this
      rw [ht]
      exact ⟨_, ⟨rfl, rfl⟩, inferInstance⟩
def prtW (c : Cfg) (i : Nat) : Bool := !vaL (c.pl.getD i (0, 0)).1 c.cats || (decide ((c.pl.getD i (0, 0)).2 ≠ -1) && (!isG c (c.pl.getD i (0, 0)).2 || decide ((c.pl.getD i (0, 0)).1 ≠ labG c (c.pl.getD i (0, 0)).2) || tkn c (c.pl.getD i (0, 0)).2 i))
theorem ports1_wf (W0 : World) (b1 : Nat) (c : Cfg) (hl : c.pl.length ≤ 8) (hcap : c.pl.length ≤ c.pc) (hs : ∀ A, SlA (OwnP W0 A) c.pa 2 pairV c.pl) (hgs : ∀ A, SlA (OwnP W0 A) c.ga 3 gsV c.gl) :
    WF W0 250 [.pointer (some ⟨b1, 0, none⟩)] c.pl.length (fun _ => grp [pt b1 (cfO c)]) (prtW c) := ⟨Tryz.call250, fun i hi R => by
  refine spec_kgrp ?_
  simp only [List.cons_append, List.nil_append]
  obtain ⟨g, o, hpa, hc⟩ := (hs (pt b1 (cfO c) :: R)).at_ hi
  obtain ⟨⟨p, q⟩, hx⟩ : ∃ x, c.pl[i] = x := ⟨_, rfl⟩
  have hgd : c.pl.getD i (0, 0) = (p, q) := by simp [List.getD, hi, hx]
  have hW : prtW c i = (!vaL p c.cats || (decide (q ≠ -1) && (!isG c q || decide (p ≠ labG c q) || tkn c q i))) := by rw [prtW, hgd]
  rw [hx] at hc
  rw [hW]
  have hrow : ∃ (gg og j : Nat) (vs : List Value), (∀ A, Cells (OwnP W0 A) gg (og + j * 3) vs) ∧ (isG c q = true → c.ga = some ⟨gg, og, none⟩ ∧ q = (j : Int) ∧ j < c.gl.length ∧ ∃ u : Int × Int × Int, vs = gsV u ∧ labG c q = u.1) := by
    cases hG : isG c q with
    | false => exact ⟨0, 0, 0, [], fun A k v hk => by simp at hk, fun h => by cases h⟩
    | true =>
      have hb : 0 ≤ q ∧ q < c.gl.length := of_decide_eq_true hG
      obtain ⟨j, rfl⟩ : ∃ j : Nat, q = (j : Int) := ⟨q.toNat, by omega⟩
      have hj : j < c.gl.length := by omega
      obtain ⟨gg, og, hga, _⟩ := (hgs []).at_ hj
      refine ⟨gg, og, j, gsV c.gl[j], fun A => ?_, fun _ => ⟨hga, rfl, hj, c.gl[j], rfl, ?_⟩⟩
      · obtain ⟨g2, o2, h2, hc2⟩ := (hgs A).at_ hj
        rw [hga] at h2; cases h2; exact hc2
      · rw [labG, Int.toNat_natCast]; simp [List.getD, hj]
  obtain ⟨gg, og, j, vs, hcv, hrw⟩ := hrow
  obtain ⟨w, hw⟩ : ∃ w, isG c q = w := ⟨_, rfl⟩
  rw [hw] at hrw ⊢
  refine spec_body Tryz.func250 Tryz.ntmps250 rfl rfl ?_
  refine x_seq (x_region (s_val rfl (v_assign rfl) (x_nil (n_then (x_seq (x_region ?_))))))
  refine s_val rfl (v_fieldAddr rfl Tryz.underlying29 rfl Tryz.sizeOf25 rfl (by first | exact Nat.zero_add _ | rfl)) ?_
  refine s_val rfl (v_load Tryz.isAgg25 rfl (cell_own rfl)) ?_
  refine s_val rfl (v_move rfl) ?_
  refine s_val rfl (v_idxA Tryz.underlying25 Tryz.sizeOf146 rfl hpa rfl rfl hi (by first | exact Nat.zero_add _ | rfl)) ?_
  refine s_val rfl (v_loadAgg Tryz.isAgg146 Tryz.sizeOf146 rfl hc.weak rfl) ?_
  refine s_do rfl (d_allocA Tryz.zeroValue146) ?_
  rintro _ _ ⟨bx, rfl, rfl⟩
  refine s_do0 (d_storeAll Tryz.sizeOf146 rfl rfl rfl rfl rfl) ?_
  rintro _ _ rfl
  refine x_nil (n_then (x_seq (x_block (x_seq (x_region ?_)))))
  refine s_val rfl (v_fieldAddr rfl Tryz.underlying146 rfl Tryz.sizeOf3 rfl (by first | exact Nat.zero_add _ | rfl)) ?_
  refine s_val rfl (v_load Tryz.isAgg3 rfl (cell_own rfl)) ?_
  refine s_val rfl (v_fieldAddr rfl Tryz.underlying29 rfl Tryz.sizeOf3 rfl (by first | exact Nat.zero_add _ | rfl)) ?_
  refine s_val rfl (v_load Tryz.isAgg3 rfl (cell_own rfl)) ?_
  refine s_do rfl (d_call Tryz.call164 rfl (lbValid_spec W0 _ p c.cats)) ?_
  rintro _ B_ ⟨rfl, hB_⟩
  obtain rfl := hB_.symm
  refine s_val rfl (v_not rfl) (s_val rfl (v_assign rfl) (x_nil (n_then ?_)))
  refine x_if rfl ?_ ?_
  · intro c2
    refine x_seq (x_region (s_val rfl (v_assign rfl) (x_nil (n_then (x_ret (r_block (r_then (x_done (.inl rfl) (.cons (r_tmp rfl) .nil) ?_))))))))
    have hv : vaL p c.cats = false := by first | exact c2 | simpa using c2
    rw [hv]
    exact ⟨_, ⟨rfl, rfl⟩, inferInstance⟩
  · intro c2
    have hv : vaL p c.cats = true := by first | exact c2 | simpa using c2
    rw [hv]
    refine x_seq (x_region ?_)
    refine s_val rfl (v_fieldAddr rfl Tryz.underlying146 rfl Tryz.sizeOf3 rfl (by first | exact Nat.zero_add _ | rfl)) ?_
    refine s_val rfl (v_load Tryz.isAgg3 rfl (cell_own rfl)) ?_
    refine s_val rfl (v_eql rfl rfl) (s_val rfl (v_assign rfl) (x_nil (n_then ?_)))
    refine x_if rfl ?_ ?_
    · intro c4
      refine x_seq (x_region (s_val rfl (v_assign rfl) (x_nil (n_then (x_ret (r_block (r_then (x_done (.inl rfl) (.cons (r_tmp rfl) .nil) ?_))))))))
      rw [decide_eq_false (by omega)]
      exact ⟨_, ⟨rfl, rfl⟩, inferInstance⟩
    · intro c4
      refine x_seq (x_region (s_val rfl (v_loadAll Tryz.isAgg29 Tryz.sizeOf29 rfl rfl) ?_))
      refine s_val rfl (v_fieldAddr rfl Tryz.underlying146 rfl Tryz.sizeOf3 rfl (by first | exact Nat.zero_add _ | rfl)) ?_
      refine s_val rfl (v_load Tryz.isAgg3 rfl (cell_own rfl)) ?_
      refine s_do rfl (d_call Tryz.call251 rfl (cfGuest_spec W0 _ c q)) ?_
      rintro _ B_ ⟨rfl, hB_⟩
      obtain rfl := hB_.symm
      rw [hw]
      refine s_val rfl (v_not rfl) (s_val rfl (v_assign rfl) (x_nil (n_then ?_)))
      refine x_if rfl ?_ ?_
      · intro c6
        refine x_seq (x_region (s_val rfl (v_assign rfl) (x_nil (n_then (x_ret (r_block (r_then (x_done (.inl rfl) (.cons (r_tmp rfl) .nil) ?_))))))))
        have hw0 : w = false := by first | exact c6 | simpa using c6
        rw [hw0, decide_eq_true (by omega)]
        exact ⟨_, ⟨rfl, rfl⟩, inferInstance⟩
      · intro c6
        obtain rfl : w = true := by first | exact c6 | simpa using c6
        obtain ⟨hga, hqj, hj, u, rfl, hlu⟩ := hrw rfl
        rw [hlu, decide_eq_true (by omega : q ≠ -1)]
        have hne : ¬ q = -1 := by omega
        refine x_skip (n_block (n_then (x_seq ?_)))
        refine x_draw [(b1, 0, cfgV c), (bx, 0, pairV (p, q)), (gg, og + j * 3, gsV u)] 18 mixed rfl (sc_own (sc_own (sc_cons (hcv _) sc_end))) (fun hS => ?_)
        refine d_take 0 rfl rfl (by kernel_rfl) (by kernel_rfl) (by kernel_rfl) rfl hS (v_fieldAddr rfl Tryz.underlying146 rfl Tryz.sizeOf3 rfl (by first | exact Nat.zero_add _ | rfl)) ?_
        refine d_take 1 rfl rfl (by kernel_rfl) (by kernel_rfl) (by kernel_rfl) rfl hS (v_load Tryz.isAgg3 rfl (by first | exact cell_sc0 (k := 0) rfl rfl | exact cell_sc0 (k := 1) rfl rfl | exact cell_sc0 (k := 2) rfl rfl | exact cell_sc0 (k := 3) rfl rfl)) ?_
        refine d_take 2 rfl rfl (by kernel_rfl) (by kernel_rfl) (by kernel_rfl) rfl hS (v_fieldAddr rfl Tryz.underlying29 rfl Tryz.sizeOf23 rfl (by first | exact Nat.zero_add _ | rfl)) ?_
        refine d_take 3 rfl rfl (by kernel_rfl) (by kernel_rfl) (by kernel_rfl) rfl hS (v_load Tryz.isAgg23 rfl (by first | exact cell_sc0 (k := 0) rfl rfl | exact cell_sc0 (k := 1) rfl rfl | exact cell_sc0 (k := 2) rfl rfl | exact cell_sc0 (k := 3) rfl rfl)) ?_
        refine d_take 4 rfl rfl (by kernel_rfl) (by kernel_rfl) (by kernel_rfl) rfl hS (v_fieldAddr rfl Tryz.underlying146 rfl Tryz.sizeOf3 rfl (by first | exact Nat.zero_add _ | rfl)) ?_
        refine d_take 5 rfl rfl (by kernel_rfl) (by kernel_rfl) (by kernel_rfl) rfl hS (v_load Tryz.isAgg3 rfl (by first | exact cell_sc0 (k := 0) rfl rfl | exact cell_sc0 (k := 1) rfl rfl | exact cell_sc0 (k := 2) rfl rfl | exact cell_sc0 (k := 3) rfl rfl)) ?_
        refine d_take 6 rfl rfl (by kernel_rfl) (by kernel_rfl) (by kernel_rfl) rfl hS (v_idxA Tryz.underlying23 Tryz.sizeOf85 rfl hga rfl hqj hj (by first | exact Nat.zero_add _ | rfl)) ?_
        refine d_take 7 rfl rfl (by kernel_rfl) (by kernel_rfl) (by kernel_rfl) rfl hS (v_fieldAddr rfl Tryz.underlying85 rfl Tryz.sizeOf3 rfl (by first | exact Nat.zero_add _ | rfl)) ?_
        refine d_take 8 rfl rfl (by kernel_rfl) (by kernel_rfl) (by kernel_rfl) rfl hS (v_load Tryz.isAgg3 rfl (cell_sc (k := 2) (j := 0) rfl rfl)) ?_
        refine d_take 9 rfl rfl (by kernel_rfl) (by kernel_rfl) (by kernel_rfl) rfl hS (v_neq rfl rfl) ?_
        refine d_take 10 rfl rfl (by kernel_rfl) (by kernel_rfl) (by kernel_rfl) rfl hS (v_move rfl) ?_
        refine x_split (t := 37) rfl ?_ ?_
        · intro g8_11
          refine d_skip 11 rfl rfl (by kernel_rfl) (by kernel_rfl) (by kernel_rfl) rfl hS ?_
          refine d_skip 12 rfl rfl (by kernel_rfl) (by kernel_rfl) (by kernel_rfl) rfl hS ?_
          refine d_skip 13 rfl rfl (by kernel_rfl) (by kernel_rfl) (by kernel_rfl) rfl hS ?_
          refine d_skip 14 rfl rfl (by kernel_rfl) (by kernel_rfl) (by kernel_rfl) rfl hS ?_
          refine d_skip 15 rfl rfl (by kernel_rfl) (by kernel_rfl) (by kernel_rfl) rfl hS ?_
          refine d_take 16 rfl rfl (by kernel_rfl) (by kernel_rfl) (by kernel_rfl) rfl hS (v_pick_t rfl rfl) ?_
          refine d_take 17 rfl rfl (by kernel_rfl) (by kernel_rfl) (by kernel_rfl) rfl hS (v_assign rfl) ?_
          refine d_done (by kernel_rfl) ?_; clear hS
          refine n_then (x_ret (x_done (.inl rfl) (.cons (r_tmp rfl) .nil) ?_))
          refine ⟨_, ⟨?_, rfl⟩, inferInstance⟩
          refine congrArg Value.bool ?_
          rw [Bool.eq_iff_iff]
          simp_all
        · intro g8_11
          refine d_take 11 rfl rfl (by kernel_rfl) (by kernel_rfl) (by kernel_rfl) rfl hS (v_loadAgg Tryz.isAgg29 Tryz.sizeOf29 rfl (by first | exact cells_sc (k := 0) rfl | exact cells_sc (k := 1) rfl | exact cells_sc (k := 2) rfl | exact cells_sc (k := 3) rfl) rfl) ?_
          refine d_take 12 rfl rfl (by kernel_rfl) (by kernel_rfl) (by kernel_rfl) rfl hS (v_fieldAddr rfl Tryz.underlying146 rfl Tryz.sizeOf3 rfl (by first | exact Nat.zero_add _ | rfl)) ?_
          refine d_take 13 rfl rfl (by kernel_rfl) (by kernel_rfl) (by kernel_rfl) rfl hS (v_load Tryz.isAgg3 rfl (by first | exact cell_sc0 (k := 0) rfl rfl | exact cell_sc0 (k := 1) rfl rfl | exact cell_sc0 (k := 2) rfl rfl | exact cell_sc0 (k := 3) rfl rfl)) ?_
          refine d_take 14 rfl rfl (by kernel_rfl) (by kernel_rfl) (by kernel_rfl) rfl hS (v_move rfl) ?_
          refine d_one 15 (by kernel_rfl) rfl rfl (d_call Tryz.call252 rfl (cfTaken_spec W0 _ c q i hi hl hcap hs)) rfl ?_; clear hS
          rintro _ B_ ⟨rfl, hB_⟩
          obtain rfl := hB_.symm
          refine ⟨(sc_own (sc_own (sc_cons (hcv _) sc_end))), fun hS => ?_⟩
          refine d_take 16 rfl rfl (by kernel_rfl) (by kernel_rfl) (by kernel_rfl) rfl hS (v_pick_f rfl rfl) ?_
          refine d_take 17 rfl rfl (by kernel_rfl) (by kernel_rfl) (by kernel_rfl) rfl hS (v_assign rfl) ?_
          refine d_done (by kernel_rfl) ?_; clear hS
          refine n_then (x_ret (x_done (.inl rfl) (.cons (r_tmp rfl) .nil) ?_))
          refine ⟨_, ⟨?_, rfl⟩, inferInstance⟩
          refine congrArg Value.bool ?_
          rw [Bool.eq_iff_iff]
          simp_all
  ⟩
def poW (c : Cfg) : Bool := decide (8 < c.pl.length) || anyW (prtW c) c.pl.length
theorem cfPorts_spec (W0 : World) (R : List HP) (c : Cfg) (hcap : c.pl.length ≤ c.pc) (hs : ∀ A, SlA (OwnP W0 A) c.pa 2 pairV c.pl) (hgs : ∀ A, SlA (OwnP W0 A) c.ga 3 gsV c.gl) :
    Spec Tryz.prog W0 115 [.agg (cfgV c).toArray] R (fun v B => ∃ r, v = .tuple #[.int .i64 r, .bool (poW c)] ∧ B = R) := by
  refine spec_body Tryz.func115 Tryz.ntmps115 rfl rfl ?_
  refine x_seq (x_region (s_do rfl (d_boxA rfl) ?_))
  rintro _ _ ⟨b1, rfl, rfl⟩
  refine s_val rfl (v_assign rfl) (s_val rfl (v_assign rfl) (x_nil (n_then (x_seq (x_seq (x_region ?_))))))
  refine s_val rfl (v_fieldAddr rfl Tryz.underlying29 rfl Tryz.sizeOf25 rfl (by first | exact Nat.zero_add _ | rfl)) ?_
  refine s_val rfl (v_load Tryz.isAgg25 rfl (cell_own rfl)) ?_
  refine s_val rfl (v_len_slice Tryz.underlying25 rfl) (s_val rfl (v_gtr rfl rfl) (x_nil (n_then ?_)))
  refine x_if rfl ?_ ?_
  · intro c1
    refine x_seq (x_region (s_val rfl (v_assign rfl) (s_val rfl (v_assign rfl) (x_nil (n_then (x_ret (r_then (x_done (.inl rfl) (.cons (r_tmp rfl) (.cons (r_tmp rfl) .nil)) ?_))))))))
    rw [poW, decide_eq_true (by omega), Bool.true_or]
    exact ⟨_, ⟨0, rfl, rfl⟩, inferInstance⟩
  · intro c1
    refine x_skip (n_then (x_seq (x_region ?_)))
    refine s_val rfl (v_fieldAddr rfl Tryz.underlying29 rfl Tryz.sizeOf25 rfl (by first | exact Nat.zero_add _ | rfl)) ?_
    refine s_val rfl (v_load Tryz.isAgg25 rfl (cell_own rfl)) ?_
    refine s_val rfl (v_len_slice Tryz.underlying25 rfl) (s_val rfl (v_mkFunc rfl rfl) ?_)
    refine s_do rfl (d_call1 Tryz.call127 rfl (cfFirst1_spec W0 _ 250 [.pointer (some ⟨b1, 0, none⟩)] c.pl.length b1 _ (prtW c) (ports1_wf W0 b1 c (by omega) hcap hs hgs) (by omega))) ?_
    rintro _ B_ ⟨r, rfl, hB_⟩
    obtain rfl := hB_.symm
    refine s_val rfl (v_extract rfl rfl) (s_val rfl (v_extract rfl rfl) (s_val rfl (v_assign rfl) (s_val rfl (v_assign rfl) (x_nil (n_then (x_ret (x_done (.inl rfl) (.cons (r_tmp rfl) (.cons (r_tmp rfl) .nil)) ?_)))))))
    rw [poW, decide_eq_false (by omega), Bool.false_or]
    exact ⟨_, ⟨r, rfl, rfl⟩, inferInstance⟩
end Go.Proofs.YtnidndllknffgaaGreat
namespace Go.Proofs.YtnidndllknffgaaGreat
open Go.RowKit
set_option linter.unusedSimpArgs false
set_option linter.unusedVariables false
set_option maxRecDepth 20000
structure CfOk (W0 : World) (c : Cfg) : Prop where
  g : ∀ A, SlA (OwnP W0 A) c.ga 3 gsV c.gl
  r : ∀ A, SlA (OwnP W0 A) c.ra 3 gsV c.rl
  p : ∀ A, SlA (OwnP W0 A) c.pa 2 pairV c.pl
  n : ∀ A, SlA (OwnP W0 A) c.na 2 pairV c.nl
  s : ∀ A, SlA (OwnP W0 A) c.sa 2 pairV c.sl
  pc : c.pl.length ≤ c.pc
def LKs (W0 : World) (c : Cfg) (C : HP) (l : List (Value × Int × Bool)) : Prop := ∀ x ∈ l, ∃ fn cs, x.1 = .func (.func fn) #[] cs.toArray ∧ (∀ args w, (callFunc fn args).run Tryz.prog w = .ok (.enter fn args) w) ∧
  ∀ R, Spec Tryz.prog W0 fn ([] ++ [.agg (cfgV c).toArray] ++ cs) (kH 0 C :: R) (fun v B => ∃ r, v = .tuple #[.int .i64 r, .bool x.2.2] ∧ B = kH 0 C :: R)
def lkE : List (Value × Int × Bool) → Int
  | [] => 0
  | x :: t => if x.2.2 then x.2.1 else lkE t
theorem lkE_at : ∀ (l : List (Value × Int × Bool)) (i : Nat) (hi : i < l.length), (∀ j (hj : j < l.length), j < i → l[j].2.2 = false) → l[i].2.2 = true → lkE l = l[i].2.1
  | x :: t, 0, _, _, h => by rw [lkE, if_pos (by simpa using h)]; rfl
  | x :: t, i + 1, hi, h1, h2 => by
    have h0 := h1 0 (by simp) (by omega)
    rw [lkE, if_neg (by simpa using h0), lkE_at t i (by simpa using hi) (fun j hj hji => by
      have := h1 (j + 1) (by simpa using hj) (by omega)
      simpa using this) (by simpa using h2)]
    simp
theorem lkE_none : ∀ (l : List (Value × Int × Bool)), (∀ j (hj : j < l.length), l[j].2.2 = false) → lkE l = 0
  | [], _ => rfl
  | x :: t, h => by
    have h0 := h 0 (by simp)
    rw [lkE, if_neg (by simpa using h0), lkE_none t (fun j hj => by
      have := h (j + 1) (by simpa using hj)
      simpa using this)]
def lkV (x : Value × Int × Bool) : List Value := [x.1, .int .i64 x.2.1]
def cfL (c : Cfg) (bg : Nat) : List (Value × Int × Bool) := [(.func (.func 113) #[] #[], 13, grW c), (.func (.func 114) #[] #[], 14, raW c), (.func (.func 115) #[] #[], 15, poW c), (.func (.func 116) #[] #[], 16, riW c), (.func (.func 117) #[] #[], 17, slW c), (.func (.func 112) #[] #[.pointer (some ⟨bg, 0, none⟩)], 18, gtW c)]
theorem check11_spec (W0 : World) (R : List HP) (bg : Nat) (x : Bool) (c : Cfg) : Spec Tryz.prog W0 112 [.agg (cfgV c).toArray, .pointer (some ⟨bg, 0, none⟩)] (pt bg (cob [.bool x] 4) :: R) (fun v B => v = .tuple #[.int .i64 0, .bool x] ∧ B = pt bg (cob [.bool x] 4) :: R) := by
  refine spec_body Tryz.func112 Tryz.ntmps112 rfl rfl ?_
  refine x_seq (x_region (s_do rfl (d_boxA rfl) ?_))
  rintro _ _ ⟨b2, rfl, rfl⟩
  refine s_val rfl (v_assign rfl) (s_val rfl (v_assign rfl) (x_nil (n_then (x_seq ?_))))
  refine x_draw [(bg, 0, _)] 3 mixed rfl (sc_own sc_end) (fun hS => ?_)
  refine d_take 0 rfl rfl (by kernel_rfl) (by kernel_rfl) (by kernel_rfl) rfl hS (v_load Tryz.isAgg4 rfl (cell_sc0 (k := 0) rfl rfl)) ?_
  refine d_take 1 rfl rfl (by kernel_rfl) (by kernel_rfl) (by kernel_rfl) rfl hS (v_assign rfl) ?_
  refine d_take 2 rfl rfl (by kernel_rfl) (by kernel_rfl) (by kernel_rfl) rfl hS (v_assign rfl) ?_
  refine d_done (by kernel_rfl) ?_; clear hS
  refine n_then (x_ret (x_done (.inl rfl) (.cons (r_tmp rfl) (.cons (r_tmp rfl) .nil)) ?_))
  exact ⟨_, ⟨rfl, rfl⟩, inferInstance⟩
theorem check1_spec (W0 : World) (R : List HP) (x : Bool) : Spec Tryz.prog W0 111 [.bool x] R (fun v B => ∃ bg, v = .func (.func 112) #[] #[.pointer (some ⟨bg, 0, none⟩)] ∧ B = pt bg (cob [.bool x] 4) :: R) := by
  refine spec_body Tryz.func111 Tryz.ntmps111 rfl rfl ?_
  refine x_seq (x_region (s_do rfl (d_box rfl rfl) ?_))
  rintro _ _ ⟨bg, rfl, rfl⟩
  refine s_val rfl (v_assign rfl) (x_nil (n_then (x_seq (x_region (s_val rfl (v_mkFunc rfl rfl) ?_)))))
  refine s_val rfl (v_assign rfl) (x_nil (n_then (x_ret (x_done (.inl rfl) (.cons (r_tmp rfl) .nil) ?_))))
  exact ⟨_, ⟨bg, rfl, rfl⟩, inferInstance⟩
theorem cfL_ok (W0 : World) (c : Cfg) (h : CfOk W0 c) (bg : Nat) : LKs W0 c (grp [pt bg (cob [.bool (gtW c)] 4)]) (cfL c bg) := by
  intro x hx
  simp only [cfL, List.mem_cons, List.not_mem_nil, or_false] at hx
  rcases hx with rfl | rfl | rfl | rfl | rfl | rfl
  · exact ⟨_, [], rfl, Tryz.call113, fun R => cfGuests_spec W0 _ c h.g⟩
  · exact ⟨_, [], rfl, Tryz.call114, fun R => cfRanges_spec W0 _ c h.r⟩
  · exact ⟨_, [], rfl, Tryz.call115, fun R => cfPorts_spec W0 _ c h.pc h.p h.g⟩
  · exact ⟨_, [], rfl, Tryz.call116, fun R => cfRings_spec W0 _ c h.n h.g⟩
  · exact ⟨_, [], rfl, Tryz.call117, fun R => cfSlots_spec W0 _ c h.s⟩
  · exact ⟨_, [.pointer (some ⟨bg, 0, none⟩)], rfl, Tryz.call112, fun R => spec_kgrp (spec_post (check11_spec W0 R bg (gtW c) c) fun v B hB => by
      obtain ⟨rfl, rfl⟩ := hB
      exact ⟨_, ⟨0, rfl, rfl⟩, inferInstance⟩)⟩
def ckE (c : Cfg) : Int := if c.cats < 0 ∨ 8 < c.cats then 12 else if grW c then 13 else if raW c then 14 else if poW c then 15 else if riW c then 16 else if slW c then 17 else if gtW c then 18 else if 32 < ndK c c.gl.length then 19 else 0
theorem ckE_lk (c : Cfg) (bg : Nat) (h : ¬ (c.cats < 0 ∨ 8 < c.cats)) : ckE c = if lkE (cfL c bg) = 0 ∧ 32 < ndK c c.gl.length then 19 else lkE (cfL c bg) := by
  rw [ckE, if_neg h]
  simp only [cfL, lkE]
  generalize grW c = a1; generalize raW c = a2; generalize poW c = a3; generalize riW c = a4; generalize slW c = a5; generalize gtW c = a6
  cases a1 <;> cases a2 <;> cases a3 <;> cases a4 <;> cases a5 <;> cases a6 <;> simp
theorem anyW_false {w : Nat → Bool} {n i : Nat} (h : anyW w n = false) (hi : i < n) : w i = false := by
  rw [← Bool.not_eq_true]; intro q
  rw [anyW_yes hi q] at h; cases h
theorem grW_no {c : Cfg} (h : grW c = false) : 1 ≤ c.gl.length ∧ c.gl.length ≤ 4 ∧ ∀ g ∈ c.gl, vaL g.1 c.cats = true ∧ 1 ≤ g.2.1 ∧ g.2.1 ≤ 8 ∧ 0 ≤ g.2.2 ∧ g.2.2 ≤ 8 - g.2.1 := by
  simp only [grW, Bool.or_eq_false_iff, decide_eq_false_iff_not] at h
  obtain ⟨h1, h2⟩ := h
  refine ⟨by omega, by omega, fun g hg => ?_⟩
  obtain ⟨i, hi, rfl⟩ := List.getElem_of_mem hg
  have := anyW_false h2 hi
  rw [show c.gl.getD i (0, 0, 0) = c.gl[i] by simp [List.getD, hi]] at this
  exact gstW_no.1 this
theorem raW_no {c : Cfg} (h : raW c = false) : c.rl.length ≤ 8 ∧ ∀ r ∈ c.rl, vaL r.1 c.cats = true ∧ 0 ≤ r.2.1 ∧ 1 ≤ r.2.2 ∧ r.2.1 + r.2.2 ≤ 32 := by
  simp only [raW, Bool.or_eq_false_iff, decide_eq_false_iff_not] at h
  obtain ⟨h1, h2⟩ := h
  refine ⟨by omega, fun r hr => ?_⟩
  obtain ⟨i, hi, rfl⟩ := List.getElem_of_mem hr
  have := anyW_false h2 hi
  rw [rgW, show rlA c i = c.rl[i] by simp [rlA, List.getD, hi], Bool.not_eq_false', Bool.and_eq_true, decide_eq_true_iff] at this
  obtain ⟨q1, q2⟩ := this
  refine ⟨q1, ?_⟩
  unfold gvE at q2
  split at q2
  · exact absurd q2 (by decide)
  · omega
theorem cfCheck_spec (W0 : World) (R : List HP) (c : Cfg) (h : CfOk W0 c) :
    Spec Tryz.prog W0 45 [.agg (cfgV c).toArray] R (fun v B => ∃ at_, v = .tuple #[.int .i64 (ckE c), .int .i64 at_] ∧ B = R) := by
  refine spec_body Tryz.func45 Tryz.ntmps45 rfl rfl ?_
  refine x_seq (x_region (s_do rfl (d_boxA rfl) ?_))
  rintro _ _ ⟨b1, rfl, rfl⟩
  refine s_val rfl (v_assign rfl) (s_val rfl (v_assign rfl) (x_nil (n_then (x_scope (x_seq (x_region (s_val rfl (v_assign rfl) (x_nil (n_then (x_seq (x_seq (x_region ?_))))))))))))
  refine s_val rfl (v_fieldAddr rfl Tryz.underlying29 rfl Tryz.sizeOf3 rfl (by first | exact Nat.zero_add _ | rfl)) ?_
  refine s_val rfl (v_load Tryz.isAgg3 rfl (cell_own rfl)) ?_
  refine s_val rfl (v_lss rfl rfl) (s_val rfl (v_move rfl) ?_)
  refine s_or rfl rfl rfl ?_ ?_
  · intro g2_4
    refine s_no rfl rfl rfl rfl (s_no rfl rfl rfl rfl (s_val rfl (v_pick_t rfl rfl) (x_nil (n_then (x_ift rfl (x_seq (x_region (s_val rfl (v_assign rfl) (s_val rfl (v_assign rfl) (x_nil (n_then (x_ret (r_then (r_scope (x_done (.inl rfl) (.cons (r_tmp rfl) (.cons (r_tmp rfl) .nil)) ?_)))))))))))))))
    have he : ckE c = 12 := by rw [ckE, if_pos (by omega)]
    rw [he]
    exact ⟨_, ⟨0, rfl, rfl⟩, inferInstance⟩
  · intro g2_4
    refine s_val rfl (v_fieldAddr rfl Tryz.underlying29 rfl Tryz.sizeOf3 rfl (by first | exact Nat.zero_add _ | rfl)) ?_
    refine s_yes rfl rfl (s_val rfl (v_load Tryz.isAgg3 rfl (cell_own rfl)) ?_)
    refine s_yes rfl rfl (s_val rfl (v_gtr rfl rfl) (s_val rfl (v_pick_f rfl rfl) (x_nil (n_then ?_))))
    refine x_if rfl ?_ ?_
    · intro c2
      refine x_seq (x_region (s_val rfl (v_assign rfl) (s_val rfl (v_assign rfl) (x_nil (n_then (x_ret (r_then (r_scope (x_done (.inl rfl) (.cons (r_tmp rfl) (.cons (r_tmp rfl) .nil)) ?_)))))))))
      have he : ckE c = 12 := by rw [ckE, if_pos (by omega)]
      rw [he]
      exact ⟨_, ⟨0, rfl, rfl⟩, inferInstance⟩
    · intro c2
      refine x_skip (n_then (x_seq (x_region (s_val rfl (v_assign rfl) (s_val rfl (v_assign rfl) (x_nil (n_then (x_seq (x_label (n_then ?_))))))))))
      refine x_cut (fun e : Int × Int => e.1 = lkE (cfL c 0) ∧ ¬ (c.cats < 0 ∨ 8 < c.cats)) (fun e => [(1, .pointer (some ⟨b1, 0, none⟩)), (5, .int .i64 e.2), (6, .int .i64 e.1)]) (fun _ => pt b1 (cfO c) :: R) ?_ ?_
      · skip
        refine x_seq (x_region (s_val rfl (v_build Tryz.underlying258 Tryz.zeroValue258 (sized_cons Tryz.sizeOf255 (sized_cons Tryz.sizeOf51 sized_nil)) (fil_scal rfl Tryz.sizeOf255 rfl rfl (Nat.le_of_ble_eq_true rfl) SetL.eq (fil_scal rfl Tryz.sizeOf51 rfl rfl (Nat.le_of_ble_eq_true rfl) SetL.eq fil_nil))) ?_))
        refine s_val rfl (v_build Tryz.underlying258 Tryz.zeroValue258 (sized_cons Tryz.sizeOf255 (sized_cons Tryz.sizeOf51 sized_nil)) (fil_scal rfl Tryz.sizeOf255 rfl rfl (Nat.le_of_ble_eq_true rfl) SetL.eq (fil_scal rfl Tryz.sizeOf51 rfl rfl (Nat.le_of_ble_eq_true rfl) SetL.eq fil_nil))) ?_
        refine s_val rfl (v_build Tryz.underlying258 Tryz.zeroValue258 (sized_cons Tryz.sizeOf255 (sized_cons Tryz.sizeOf51 sized_nil)) (fil_scal rfl Tryz.sizeOf255 rfl rfl (Nat.le_of_ble_eq_true rfl) SetL.eq (fil_scal rfl Tryz.sizeOf51 rfl rfl (Nat.le_of_ble_eq_true rfl) SetL.eq fil_nil))) ?_
        refine s_val rfl (v_build Tryz.underlying258 Tryz.zeroValue258 (sized_cons Tryz.sizeOf255 (sized_cons Tryz.sizeOf51 sized_nil)) (fil_scal rfl Tryz.sizeOf255 rfl rfl (Nat.le_of_ble_eq_true rfl) SetL.eq (fil_scal rfl Tryz.sizeOf51 rfl rfl (Nat.le_of_ble_eq_true rfl) SetL.eq fil_nil))) ?_
        refine s_val rfl (v_build Tryz.underlying258 Tryz.zeroValue258 (sized_cons Tryz.sizeOf255 (sized_cons Tryz.sizeOf51 sized_nil)) (fil_scal rfl Tryz.sizeOf255 rfl rfl (Nat.le_of_ble_eq_true rfl) SetL.eq (fil_scal rfl Tryz.sizeOf51 rfl rfl (Nat.le_of_ble_eq_true rfl) SetL.eq fil_nil))) ?_
        refine s_val rfl (v_move rfl) (s_val rfl (v_loadAll Tryz.isAgg29 Tryz.sizeOf29 rfl rfl) ?_)
        refine s_do rfl (d_call Tryz.call118 rfl (cfGate_spec W0 _ c)) ?_
        rintro _ B_ ⟨rfl, hB_⟩
        obtain rfl := hB_.symm
        refine s_do rfl (d_callv rfl Tryz.call111 rfl (check1_spec W0 _ (gtW c))) ?_
        rintro _ B_ ⟨bg, rfl, hB_⟩
        obtain rfl := hB_.symm
        refine s_val rfl (v_build Tryz.underlying258 Tryz.zeroValue258 (sized_cons Tryz.sizeOf255 (sized_cons Tryz.sizeOf51 sized_nil)) (fil_scal rfl Tryz.sizeOf255 rfl rfl (Nat.le_of_ble_eq_true rfl) SetL.eq (fil_scal rfl Tryz.sizeOf51 rfl rfl (Nat.le_of_ble_eq_true rfl) SetL.eq fil_nil))) ?_
        refine s_do rfl (d_sliceAgg Tryz.underlying259 Tryz.sizeOf258 Tryz.zeroValue258 rfl (elsK_cons rfl rfl (elsK_cons rfl rfl (elsK_cons rfl rfl (elsK_cons rfl rfl (elsK_cons rfl rfl (elsK_cons rfl rfl elsK_nil)))))) rfl (by decide) (by decide) (by decide)) ?_
        rintro _ _ ⟨bl, rfl, rfl⟩
        refine run_pt (b := bl) (o' := cob ((cfL c bg).flatMap lkV) 258) rfl ?_
        refine s_val rfl (v_len_slice Tryz.underlying259 rfl) (s_val rfl (v_move rfl) (x_nil (n_then (x_block ?_))))
        refine x_loop (fun i : Nat => i ≤ 6 ∧ ∀ j (hj : j < (cfL c bg).length), j < i → ((cfL c bg)[j]).2.2 = false) (fun i => [(1, .pointer (some ⟨b1, 0, none⟩)), (5, .int .i64 0), (6, .int .i64 0), (29, .slice (some ⟨bl, 0, none⟩) 6 6), (30, .int .i64 6), (31, .int .i64 i)]) (fun _ => pt bl (cob ((cfL c bg).flatMap lkV) 258) :: pt b1 (cfO c) :: kH 0 (grp [pt bg (cob [.bool (gtW c)] 4)]) :: R) (fun i => 6 - i) 0 ?_ ?_ ?_ ?_
        · exact ⟨Nat.zero_le _, fun j hj q => absurd q (Nat.not_lt_zero _)⟩
        · repeat (first | exact sub_nil | refine sub_cons rfl ?_)
        · exact inferInstance
        · intro i ⟨hi, hI⟩
          refine x_seq (x_region (s_val rfl (v_lss rfl rfl) (x_nil (n_then (x_seq ?_)))))
          refine x_if rfl ?_ ?_
          · intro c6
            refine x_skip (n_then (x_seq (x_block (x_seq ?_))))
            have hi1 : i < 6 := by omega
            have hlen : (cfL c bg).length = 6 := rfl
            have hil : i < (cfL c bg).length := by rw [hlen]; exact hi1
            have hok := cfL_ok W0 c h bg (cfL c bg)[i] (List.getElem_mem hil)
            have hEq := lkE_at (cfL c bg) i hil hI
            have hnx : (cfL c bg)[i].2.2 = false → ∀ j (hj : j < (cfL c bg).length), j < i + 1 → ((cfL c bg)[j]).2.2 = false := fun q j hj hji => by
              rcases Nat.lt_or_ge j i with q2 | q2
              · exact hI j hj q2
              · obtain rfl : j = i := by omega
                exact q
            have hcell : Cells (OwnP W0 (pt bl (cob ((cfL c bg).flatMap lkV) 258) :: pt b1 (cfO c) :: kH 0 (grp [pt bg (cob [.bool (gtW c)] 4)]) :: R)) bl (i * 2) (lkV (cfL c bg)[i]) := by
              obtain ⟨b, off, e1, hc⟩ := sla_pt (W0 := W0) (A := pt bl (cob ((cfL c bg).flatMap lkV) 258) :: pt b1 (cfO c) :: kH 0 (grp [pt bg (cob [.bool (gtW c)] 4)]) :: R) (f := lkV) (sz := 2) (xs := cfL c bg) (b := bl) (fun _ => rfl) rfl i (cfL c bg)[i] (by simp [hil])
              cases e1
              rwa [Nat.zero_add] at hc
            generalize hy : (cfL c bg)[i] = y at hok hEq hnx hcell
            obtain ⟨yv, ye, yb⟩ := y
            obtain ⟨fn, cs, rfl, hcall, hsp⟩ := hok
            dsimp only at hEq hnx hsp
            refine x_region ?_
            refine s_val rfl (v_idx Tryz.underlying259 Tryz.sizeOf258 rfl rfl rfl hi1 (by first | exact Nat.zero_add _ | rfl)) ?_
            refine s_val rfl (v_loadAgg Tryz.isAgg258 Tryz.sizeOf258 rfl hcell rfl) ?_
            refine s_do rfl (d_allocA Tryz.zeroValue258) ?_
            rintro _ _ ⟨bx, rfl, rfl⟩
            refine s_do0 (d_storeAll Tryz.sizeOf258 rfl rfl rfl rfl rfl) ?_
            rintro _ _ rfl
            refine x_nil (n_then (x_seq (x_region ?_)))
            refine s_val rfl (v_fieldAddr rfl Tryz.underlying258 rfl Tryz.sizeOf255 rfl (by first | exact Nat.zero_add _ | rfl)) ?_
            refine s_val rfl (v_load Tryz.isAgg255 rfl (cell_own rfl)) ?_
            refine s_val rfl (v_loadAll Tryz.isAgg29 Tryz.sizeOf29 rfl rfl) ?_
            refine s_do rfl (d_callv1 (us := []) (cs := cs) rfl hcall rfl (hsp _)) ?_
            rintro _ B_ ⟨r_, rfl, hB_⟩
            obtain rfl := hB_.symm
            refine s_val rfl (v_move rfl) (s_val rfl (v_extract rfl rfl) (s_val rfl (v_extract rfl rfl) (s_val rfl (v_assign rfl) (s_val rfl (v_assign rfl) (x_nil (n_then (x_seq (x_region (s_val rfl (v_move rfl) (x_nil (n_then ?_)))))))))))
            refine x_if rfl ?_ ?_
            · intro c9
              refine x_seq ?_
              refine x_draw [(bx, 0, _)] 5 mixed rfl (sc_own sc_end) (fun hS => ?_)
              refine d_take 0 rfl rfl (by kernel_rfl) (by kernel_rfl) (by kernel_rfl) rfl hS (v_move rfl) ?_
              refine d_take 1 rfl rfl (by kernel_rfl) (by kernel_rfl) (by kernel_rfl) rfl hS (v_fieldAddr rfl Tryz.underlying258 rfl Tryz.sizeOf51 rfl (by first | exact Nat.zero_add _ | rfl)) ?_
              refine d_take 2 rfl rfl (by kernel_rfl) (by kernel_rfl) (by kernel_rfl) rfl hS (v_load Tryz.isAgg51 rfl (cell_sc0 (k := 0) rfl rfl)) ?_
              refine d_take 3 rfl rfl (by kernel_rfl) (by kernel_rfl) (by kernel_rfl) rfl hS (v_assign rfl) ?_
              refine d_take 4 rfl rfl (by kernel_rfl) (by kernel_rfl) (by kernel_rfl) rfl hS (v_assign rfl) ?_
              refine d_done (by kernel_rfl) ?_; clear hS
              refine n_then (x_exit (e_block_ne rfl (e_then (e_then (e_block (n_then ?_))))))
              refine mid_intro (ye, r_) ?_ ?_ ?_
              · exact ⟨(hEq c9).symm, by omega⟩
              · repeat (first | exact sub_nil | refine sub_cons rfl ?_)
              · exact inferInstance
            · intro c9
              refine x_skip (n_block (n_then (x_region ?_)))
              refine s_val rfl (v_add rfl rfl (by first | exact w64 (by omega) | rfl)) ?_
              refine s_val rfl (v_move rfl) (x_nil (n_then ?_))
              refine inv_intro (i + 1) ?_ ?_ ?_ ?_
              · exact ⟨by omega, hnx (by simpa using c9)⟩
              · omega
              · repeat (first | exact sub_nil | refine sub_cons rfl ?_)
              · exact inferInstance
          · intro c6
            refine x_exit (e_then (e_then (e_block (n_then ?_))))
            refine mid_intro ((0 : Int), (0 : Int)) ?_ ?_ ?_
            · obtain rfl : i = 6 := by omega
              exact ⟨(lkE_none _ fun j hj => hI j hj (by have : (cfL c bg).length = 6 := rfl; omega)).symm, by omega⟩
            · repeat (first | exact sub_nil | refine sub_cons rfl ?_)
            · exact inferInstance
      · intro ⟨e, at_⟩ ⟨he, hcat⟩
        dsimp only at he ⊢
        have hce := ckE_lk c 0 hcat
        rw [← he] at hce
        refine x_seq (x_seq (x_region (s_val rfl (v_move rfl) (s_val rfl (v_eql rfl rfl) (s_val rfl (v_move rfl) ?_)))))
        refine s_and rfl rfl rfl ?_ ?_
        · intro g12_3
          have hall : lkE (cfL c 0) = 0 := by rw [← he]; exact g12_3
          have hgr : grW c = false := by
            rw [← Bool.not_eq_true]; intro q; simp only [cfL, lkE, q, if_true] at hall; exact absurd hall (by decide)
          have hri : riW c = false := by
            rw [← Bool.not_eq_true]; intro q; simp only [cfL, lkE, q, if_true] at hall; split at hall <;> (try split at hall) <;> (try split at hall) <;> exact absurd hall (by decide)
          obtain ⟨k1, k2, k3⟩ := grW_no hgr
          have k4 : c.nl.length ≤ 4 := by
            simp only [riW, Bool.or_eq_false_iff, decide_eq_false_iff_not] at hri; omega
          refine s_val rfl (v_loadAll Tryz.isAgg29 Tryz.sizeOf29 rfl rfl) ?_
          refine s_yes rfl rfl ?_
          refine s_do rfl (d_call Tryz.call119 rfl (cfNeed_spec W0 _ c h.g (fun g hg => (k3 g hg).2) k4 k2)) ?_
          rintro _ B_ ⟨rfl, hB_⟩
          obtain rfl := hB_.symm
          refine s_yes rfl rfl (s_val rfl (v_gtr rfl rfl) (s_val rfl (v_pick_t rfl rfl) (x_nil (n_then ?_))))
          refine x_if rfl ?_ ?_
          · intro c12
            refine x_seq (x_region (s_val rfl (v_assign rfl) (s_val rfl (v_assign rfl) (x_nil (n_then (x_ret (r_then (r_scope (x_done (.inl rfl) (.cons (r_tmp rfl) (.cons (r_tmp rfl) .nil)) ?_)))))))))
            rw [hce, if_pos (by omega)]
            exact ⟨_, ⟨0, rfl, rfl⟩, inferInstance⟩
          · intro c12
            refine x_skip (n_then (x_seq (x_region (s_val rfl (v_move rfl) (s_val rfl (v_move rfl) (s_val rfl (v_assign rfl) (s_val rfl (v_assign rfl) (x_nil (n_then (x_ret (r_scope (x_done (.inl rfl) (.cons (r_tmp rfl) (.cons (r_tmp rfl) .nil)) ?_))))))))))))
            rw [hce, if_neg (by omega)]
            exact ⟨_, ⟨_, rfl, rfl⟩, inferInstance⟩
        · intro g12_3
          refine s_no rfl rfl rfl rfl (s_no rfl rfl rfl rfl (s_val rfl (v_pick_f rfl rfl) (x_nil (n_then (x_iff rfl (x_skip (n_then (x_seq (x_region (s_val rfl (v_move rfl) (s_val rfl (v_move rfl) (s_val rfl (v_assign rfl) (s_val rfl (v_assign rfl) (x_nil (n_then (x_ret (r_scope (x_done (.inl rfl) (.cons (r_tmp rfl) (.cons (r_tmp rfl) .nil)) ?_))))))))))))))))))
          rw [hce, if_neg (by omega)]
          exact ⟨_, ⟨_, rfl, rfl⟩, inferInstance⟩
def rt (c : Cfg) : Bool := decide (ckE c = 0)
theorem cfRight_spec (W0 : World) (R : List HP) (c : Cfg) (h : CfOk W0 c) :
    Spec Tryz.prog W0 120 [.agg (cfgV c).toArray] R (fun v B => v = .bool (rt c) ∧ B = R) := by
  refine spec_body Tryz.func120 Tryz.ntmps120 rfl rfl ?_
  refine x_seq (x_region (s_do rfl (d_boxA rfl) ?_))
  rintro _ _ ⟨b1, rfl, rfl⟩
  refine s_val rfl (v_assign rfl) (x_nil (n_then (x_seq (x_region (s_val rfl (v_loadAll Tryz.isAgg29 Tryz.sizeOf29 rfl rfl) ?_)))))
  refine s_do rfl (d_call Tryz.call45 rfl (cfCheck_spec W0 _ c h)) ?_
  rintro _ B_ ⟨at_, rfl, hB_⟩
  obtain rfl := hB_.symm
  refine s_val rfl (v_move rfl) (s_val rfl (v_extract rfl rfl) (s_val rfl (v_extract rfl rfl) (s_val rfl (v_assign rfl) (s_val rfl (v_assign rfl) (x_nil (n_then (x_seq (x_region (s_val rfl (v_move rfl) (s_val rfl (v_eql rfl rfl) (s_val rfl (v_assign rfl) (x_nil (n_then (x_ret (x_done (.inl rfl) (.cons (r_tmp rfl) .nil) ?_)))))))))))))))
  refine ⟨_, ⟨?_, rfl⟩, inferInstance⟩
  refine congrArg Value.bool ?_
  rw [Bool.eq_iff_iff, rt]; simp
theorem rt_yes {c : Cfg} (h : rt c = true) : 0 ≤ c.cats ∧ c.cats ≤ 8 ∧ grW c = false ∧ raW c = false ∧ poW c = false ∧ riW c = false ∧ slW c = false ∧ gtW c = false ∧ ndK c c.gl.length ≤ 32 := by
  have h := of_decide_eq_true h
  unfold ckE at h
  split at h
  · exact absurd h (by decide)
  rename_i q1
  repeat' split at h
  all_goals first | exact absurd h (by decide) | skip
  rename_i q2 q3 q4 q5 q6 q7 q8
  exact ⟨by omega, by omega, by simpa using q2, by simpa using q3, by simpa using q4, by simpa using q5, by simpa using q6, by simpa using q7, by omega⟩
end Go.Proofs.YtnidndllknffgaaGreat
namespace Go.Proofs.YtnidndllknffgaaGreat
open Go.RowKit
set_option linter.unusedSimpArgs false
set_option linter.unusedVariables false
section
variable {P : Program} {S : World → Prop} {W0 : World} {N : FSz} {e : Env} {A R : List HP} {t t' : TypeId} {x : Operand} {bs : List Nat} {a : Option Addr} {c n : Nat}
end
end Go.Proofs.YtnidndllknffgaaGreat
namespace Go.Proofs.YtnidndllknffgaaGreat
open Go.ChangeShapes Go.WideShapes Go.ChangeAt Go.RowKit
set_option linter.unusedSimpArgs false
set_option linter.unusedVariables false
def InT (P : Program) (w : World) : Nat → TypeId → List Value → Prop
  | 0, _, _ => False
  | fuel + 1, t, cs =>
    match P.underlying t with
    | some .bool => ∃ b, cs = [.bool b]
    | some (.int k) => ∃ n, cs = [.int k n] ∧ (Lit.int k n).wf = true
    | some .string => ∃ s, cs = [.string s] ∧ s.size ≤ maxLen
    | some (.slice e) => cs = [.slice none 0 0] ∨ ∃ a len cap, cs = [.slice (some a) len cap] ∧ len ≤ cap ∧ cap ≤ maxLen ∧
        ∀ i, i < len → ∃ cs', w.cells? 0 (a.add (i * P.cellsOf e)) (P.cellsOf e) = some cs' ∧ InT P w fuel e cs'
    | some (.struct fs) => cs.length = P.cellsOf t ∧ ∀ f : Field, f ∈ fs.toList → InT P w fuel f.type ((cs.drop f.offset).take (P.cellsOf f.type))
    | some (.array n e) => cs.length = P.cellsOf t ∧ ∀ i, i < n → InT P w fuel e ((cs.drop (i * P.cellsOf e)).take (P.cellsOf e))
    | _ => True
section
variable {H : Type} {enc : TypeId × Value → H} {P : Program} {w W : World}
theorem inT_of_trod {sp : Nat → Bool} : ∀ (fuel : Nat) (t : TypeId) (cs : List Value) (x : DataW H × List MemPlace), DataW.trod enc P w 0 sp true fuel t cs = some x → InT P w fuel t cs
  | 0, t, cs, x, h => by simp [DataW.trod] at h
  | fuel + 1, t, cs, x, h => by
    unfold InT
    cases hu : P.underlying t with
    | none => trivial
    | some d =>
      cases d with
      | bool =>
        simp only []
        unfold DataW.trod at h; simp only [hu] at h
        split at h <;> simp_all
      | int k =>
        simp only []
        obtain ⟨n, hc, _, hw⟩ := DataW.trod_int hu h
        exact ⟨n, hc, hw⟩
      | string =>
        simp only []
        unfold DataW.trod at h; simp only [hu] at h
        split at h <;> simp_all
      | slice e =>
        simp only []
        rcases DataW.trod_slice hu h with ⟨hc, _⟩ | ⟨a, len, cap, elems, rest, n, hf, hc, _, _, hl, hm, hle, hel, _⟩
        · exact .inl hc
        · refine .inr ⟨a, len, cap, hc, hl, hm, fun i hi => ?_⟩
          obtain rfl : fuel = n := by omega
          have h1 := hel i hi
          have h2 : elems[i]? = some elems[i] := by simp
          rw [h2] at h1
          cases hcs : w.cells? 0 (a.add (i * P.cellsOf e)) (P.cellsOf e) with
          | none => rw [hcs] at h1; cases h1
          | some cs' =>
            rw [hcs] at h1
            exact ⟨cs', rfl, inT_of_trod fuel e cs' _ h1⟩
      | struct fs =>
        simp only []
        obtain ⟨xs, n, hf, _, hlen, hxs, hel⟩ := DataW.trod_struct hu h
        obtain rfl : fuel = n := by omega
        refine ⟨hlen, fun f hm => ?_⟩
        obtain ⟨i, hi, hfi⟩ := List.getElem_of_mem hm
        have h1 := hel i f (by simp at hi; simp [← hfi, hi])
        have h2 : xs[i]? = some (xs[i]'(by simp at hi; omega)) := by simp at hi; simp [hxs, hi]
        rw [h2] at h1
        exact inT_of_trod fuel _ _ _ h1
      | array n e =>
        simp only []
        obtain ⟨xs, m, hf, _, hlen, hxs, hel⟩ := DataW.trod_array hu h
        obtain rfl : fuel = m := by omega
        refine ⟨hlen, fun i hi => ?_⟩
        have h1 := hel i hi
        have h2 : xs[i]? = some (xs[i]'(by omega)) := by simp [hxs, hi]
        rw [h2] at h1
        exact inT_of_trod fuel _ _ _ h1
      | _ => trivial
def Ty (P : Program) (W : World) (t : TypeId) (v : Value) : Prop := (∃ (r : Reach) (b : Nat), Value.okWide P W r b t v) ∧ ∃ fuel, InT P W fuel t v.cells.toList
theorem ty_mk {t : TypeId} {v : Value} {d : DataW H} {p : List MemPlace} {sp : Nat → Bool} {r : Reach} {b : Nat} (h : Value.okWide P W r b t v) (k : DataW.Trod enc P W 0 sp true t v d p) : Ty P W t v := by
  obtain ⟨fuel, hf⟩ := k
  exact ⟨⟨r, b, h⟩, fuel, inT_of_trod fuel t _ _ hf⟩
variable {t : TypeId} {v : Value}
theorem inT_int {k : IntKind} {fuel : Nat} {cs : List Value} (hu : P.underlying t = some (.int k)) (h : InT P W fuel t cs) : ∃ n, cs = [.int k n] ∧ (Lit.int k n).wf = true := by
  cases fuel with
  | zero => exact h.elim
  | succ f => unfold InT at h; simpa only [hu] using h
theorem ty_int {k : IntKind} (hu : P.underlying t = some (.int k)) (h : Ty P W t v) : ∃ n, v = .int k n ∧ (Lit.int k n).wf = true := by
  obtain ⟨⟨r, b, h1⟩, fuel, h2⟩ := h
  obtain ⟨n, rfl⟩ := okWide_int hu h1
  obtain ⟨m, hm, hw⟩ := inT_int hu h2
  simp only [Value.cells, List.cons.injEq, Value.int.injEq, true_and, and_true] at hm
  subst hm; exact ⟨n, rfl, hw⟩
theorem list_cons {α : Type} {l : List α} {n : Nat} (h : n + 1 = l.length) : ∃ a l', l = a :: l' ∧ n = l'.length := by
  cases l with
  | nil => cases h
  | cons a l => exact ⟨a, l, rfl, by simpa using h⟩
theorem list_nil {α : Type} {l : List α} (h : 0 = l.length) : l = [] := List.length_eq_zero_iff.1 h.symm
theorem below_trodAll (hl : laidOutB P = true) {W' : World} (hb : Below W.heap.size W W') : ∀ (ts : List TypeId) (vs : List Value) (ds : List (DataW H)) (p : List MemPlace), (ts.all fun t => P.readableRec t && decide (t < P.types.size)) = true →
    DataW.TrodAll enc P W 0 (fun _ => true) true ts vs ds p → DataW.TrodAll enc P W' 0 (fun b => decide (b < W.heap.size)) true ts vs ds p
  | [], [], [], p, _, h => h
  | [], _ :: _, _, p, _, h => by cases h
  | [], [], _ :: _, p, _, h => by cases h
  | _ :: _, [], _, p, _, h => by cases h
  | _ :: _, _ :: _, [], p, _, h => by cases h
  | t :: ts, v :: vs, d :: ds, p, hr, h => by
    obtain ⟨q, q', h1, h2, rfl⟩ := h
    simp only [List.all_cons, Bool.and_eq_true, decide_eq_true_eq] at hr
    have lt : ∀ x ∈ q, x.block < W.heap.size := by obtain ⟨m, hm⟩ := h1; exact DataW.trod_lt m _ _ _ hm
    exact ⟨q, q', Below.trod hl hr.1.1 hr.1.2 h1 hb lt, below_trodAll hl hb ts vs ds q' hr.2 h2, rfl⟩
theorem ty_all {sp : Nat → Bool} {r : Reach} {b : Nat} : ∀ (ts : List TypeId) (vs : List Value) (ds : List (DataW H)) (p : List MemPlace), (∀ (j : Nat) t v, ts[j]? = some t → vs[j]? = some v → Value.okWide P W r b t v) →
    DataW.TrodAll enc P W 0 sp true ts vs ds p → ts.length = vs.length ∧ ts.length = ds.length ∧ ∀ (j : Nat) t v, ts[j]? = some t → vs[j]? = some v → Ty P W t v
  | [], [], [], p, _, h => ⟨rfl, rfl, fun j t v h => by simp at h⟩
  | [], _ :: _, _, p, _, h => by cases h
  | [], [], _ :: _, p, _, h => by cases h
  | _ :: _, [], _, p, _, h => by cases h
  | _ :: _, _ :: _, [], p, _, h => by cases h
  | t :: ts, v :: vs, d :: ds, p, hok, h => by
    obtain ⟨q, q', h1, h2, rfl⟩ := h
    obtain ⟨k1, k2, k3⟩ := ty_all ts vs ds q' (fun j t v ht hv => hok (j + 1) t v (by simpa using ht) (by simpa using hv)) h2
    refine ⟨by simp [k1], by simp [k2], fun j t' v' ht hv => ?_⟩
    cases j with
    | zero =>
      simp only [List.getElem?_cons_zero, Option.some.injEq] at ht hv
      subst ht; subst hv
      exact ty_mk (hok 0 t v rfl rfl) h1
    | succ j => exact k3 j t' v' (by simpa using ht) (by simpa using hv)
end
end Go.Proofs.YtnidndllknffgaaGreat
namespace Go.Proofs.YtnidndllknffgaaGreat
open Go.ChangeShapes Go.WideShapes Go.ChangeAt Go.RowKit
set_option linter.unusedSimpArgs false
set_option linter.unusedVariables false
variable {P : Program} {w W : World} {t : TypeId} {v : Value}
end Go.Proofs.YtnidndllknffgaaGreat
namespace Go.Proofs.YtnidndllknffgaaGreat
open Go.RowKit
set_option linter.unusedSimpArgs false
set_option linter.unusedVariables false
set_option maxRecDepth 20000
structure Sec where
  at_ : Int
  d : ByteArray
instance : Inhabited Sec := ⟨⟨0, ByteArray.empty⟩⟩
structure Inp where
  at_ : Int
  g : Int
  k : Int
  code : Int
  d : ByteArray
instance : Inhabited Inp := ⟨⟨0, 0, 0, 0, ByteArray.empty⟩⟩
theorem Own.step {W0 w w' : World} {A C : List HP} (h : Own W0 w A) (k : Own w w' C) : Own W0 w' (C ++ A) := by
  obtain ⟨lA, sA, nA, mA⟩ := h.owns
  obtain ⟨lC, sC, nC, mC⟩ := k.owns
  have hlt : ∀ p ∈ lA, p.1 < w.heap.size := fun p hp => by
    have := (mA p hp).2
    rcases Nat.lt_or_ge p.1 w.heap.size with q | q
    · exact q
    · rw [Array.getElem?_eq_none q] at this; cases this
  refine ⟨k.os.trans h.os, k.tape.trans h.tape, k.output.trans h.output, Nat.le_trans h.size k.size, fun b hb => (k.base b (Nat.lt_of_lt_of_le hb h.size)).trans (h.base b hb), lC ++ lA, Sat.append.2 ⟨lC, lA, rfl, sC, sA⟩, ?_, fun p hp => ?_⟩
  · rw [List.map_append, List.nodup_append]
    refine ⟨nC, nA, fun x hx y hy e => ?_⟩
    obtain ⟨p, hp, rfl⟩ := List.mem_map.1 hx
    obtain ⟨q, hq, rfl⟩ := List.mem_map.1 hy
    have h1 := (mC p hp).1
    have h2 := hlt q hq
    omega
  · rcases List.mem_append.1 hp with q | q
    · exact ⟨Nat.le_trans h.size (mC p q).1, (mC p q).2⟩
    · exact ⟨(mA p q).1, (k.base p.1 (hlt p q)).trans (mA p q).2⟩
theorem spec_rebase {P : Program} {W0 : World} {f : FuncId} {args : List Value} {A : List HP} {Post : Value → List HP → Prop} (h : ∀ W, Own W0 W A → Spec P W f args [] Post) : Spec P W0 f args A (fun v B => ∃ C, Post v C ∧ B = C ++ A) := by
  intro w hO
  refine (h w hO w (Own.refl w)).mono ?_
  rintro e w' ⟨v, C, rfl, hp, hO'⟩
  exact ⟨v, C ++ A, rfl, ⟨C, hp, rfl⟩, hO.step hO'⟩
theorem cells_now {W0 W : World} {A : List HP} {b off : Nat} {vs : List Value} (hO : Own W0 W A) (h : Cells (OwnP W0 A) b off vs) : ∀ B, Cells (OwnP W B) b off vs := fun B i v hi => cell_base (h i v hi W hO)
theorem sla_now {α : Type} {W0 W : World} {A : List HP} {a : Option Addr} {sz : Nat} {f : α → List Value} {xs : List α} (hO : Own W0 W A) (h : SlA (OwnP W0 A) a sz f xs) : ∀ B, SlA (OwnP W B) a sz f xs := fun B i x hi => by
  obtain ⟨b, off, rfl, hc⟩ := h i x hi
  exact ⟨b, off, rfl, cells_now hO hc B⟩
end Go.Proofs.YtnidndllknffgaaGreat
namespace Go.Proofs.YtnidndllknffgaaGreat
open Go.RowKit
set_option linter.unusedSimpArgs false
set_option linter.unusedVariables false
set_option maxRecDepth 20000
end Go.Proofs.YtnidndllknffgaaGreat
namespace Go.Proofs.YtnidndllknffgaaGreat
open Go.RowKit
set_option linter.unusedSimpArgs false
set_option linter.unusedVariables false
abbrev MEn := Int × Value × Nat
def mEnt (p : MEn) : MapEntry := { key := .int .i64 p.1, val := p.2.1, born := p.2.2 }
def mEnts (L : List MEn) : Array MapEntry := (L.map mEnt).toArray
def mget : List MEn → Int → Option Value
  | [], _ => none
  | p :: l, k => if p.1 = k then some p.2.1 else mget l k
def mapH (b : Nat) (f : Int → Option Value) : HP := chk (fun C => ∃ (L : List MEn) (clock : Nat), (L.map (·.1)).Nodup ∧ (∀ k, mget L k = f k) ∧ C = [pt b (.map (mEnts L) clock)])
section
variable {rd : Option Nat} {P : Program} {S : World → Prop} {W0 : World} {N : FSz} {e : Env} {A B R : List HP}
variable {op : Op} {ty t K E : TypeId} {v z : Value} {b : Nat} {x y u : Operand} {f : Int → Option Value} {k : Int}
theorem ent_mapH {L : List MEn} {c : Nat} (h1 : (L.map (·.1)).Nodup) (h2 : ∀ k, mget L k = f k) : Ent (pt b (.map (mEnts L) c) :: R) (mapH b f :: R) := ent_chk (R := R) (C := [_]) ⟨L, c, h1, h2, rfl⟩
theorem d_makeMap : Does P W0 N e A (.makeMap t none) (fun v B => ∃ b, v = .map (some b) ∧ B = mapH b (fun _ => none) :: A) := does_run fun a w _ _ _ _ _ hF hO => by
  refine ⟨_, w.alloc (.map #[] 0), _, .inl ?_, ⟨w.heap.size, rfl, rfl⟩, ?_⟩
  · simp [execOp, Instr.makeMap, newObj, Sem.run]
  · have hn := hO.new (.map (mEnts []) 0)
    exact hn.ent (ent_mapH (L := []) (by simp) (fun _ => rfl))
end
end Go.Proofs.YtnidndllknffgaaGreat
namespace Go.Proofs.YtnidndllknffgaaGreat
open Go.RowKit
set_option linter.unusedSimpArgs false
set_option linter.unusedVariables false
section
variable {P : Program} {S : World → Prop} {W0 : World} {N : FSz} {e : Env} {A R : List HP} {t t' ty : TypeId} {b off : Nat} {x y : Operand} {l l' : List Value}
theorem v_sliceArrLH {E n sz i h o' : Nat} {k k' : IntKind} {j1 j2 : Int} (hu : P.underlying t = some (.array n E)) (hs : ∀ w, (sizeOf E).run P w = .ok sz w) (hx : ev e x = some (.pointer (some ⟨b, off, none⟩))) {lo hi : Operand} (h1 : ev e lo = some (.int k j1)) (h2 : ev e hi = some (.int k' j2)) (e1 : j1 = (i : Int)) (e2 : j2 = (h : Int)) (hih : i ≤ h) (hhn : h ≤ n) (hin : i < n) (ho : off + i * sz = o') :
    Val P S N e (.slice t x (some lo) (some hi) none) (.slice (some ⟨b, o', none⟩) (h - i) (n - i)) := fun a w _ _ _ _ _ hF _ => by
  subst e1; subst e2; subst ho
  have hmi : ¬ n = i := by omega
  simp [execOp, Instr.sliceAt, hF.eval hx, hF.eval h1, hF.eval h2, run_und hu, Instr.sureAddr, Instr.sliceBounds, run_bound hhn, run_bound hih, hs, hmi, add_none]
theorem v_toArr {E n m c : Nat} {a : Option Addr} (hu : P.underlying t = some (.array n E)) (hx : ev e x = some (.slice a m c)) (hn : ¬ m < n) : Val P S N e (.sliceToArrayPointer t x) (.pointer a) := fun act w _ _ _ _ _ hF _ => by
  simp [execOp, hF.eval hx, Instr.arrayAt, run_und hu, hn]
theorem cells_midA {S : World → Prop} {b off n j : Nat} {l vs : List Value} (h : Cells S b off l) (hv : (l.drop j).take n = vs) : Cells S b (off + j) vs := fun i v hi => by
  subst hv
  rw [List.getElem?_take] at hi
  split at hi
  · rw [List.getElem?_drop] at hi
    rw [Nat.add_assoc]
    exact h (j + i) v hi
  · cases hi
end
end Go.Proofs.YtnidndllknffgaaGreat
namespace Go.Proofs.YtnidndllknffgaaGreat
open Go.RowKit
set_option linter.unusedSimpArgs false
set_option linter.unusedVariables false
set_option maxRecDepth 20000
abbrev viO (ps pm d : Nat) : Obj := cob [.pointer (some ⟨ps, 0, none⟩), .pointer (some ⟨pm, 0, none⟩), .int .u32 (d : Nat)] 368
theorem viNone_spec (W0 : World) (R : List HP) (pv ps pm d : Nat) : Spec Tryz.prog W0 276 [.pointer (some ⟨pv, 0, none⟩)] (pt pv (viO ps pm d) :: R) (fun v B => v = .bool false ∧ B = pt pv (viO ps pm d) :: R) := by
  refine spec_body Tryz.func276 Tryz.ntmps276 rfl rfl ?_
  refine x_seq (x_region (s_val rfl (v_assign rfl) (x_nil (n_then (x_seq (x_region (s_val rfl (v_move rfl) (s_val rfl (v_eql_ptr_nil Tryz.underlying139 rfl rfl) (s_val rfl (v_move rfl) ?_)))))))))
  refine s_or rfl rfl rfl ?_ ?_
  · intro g1_3
    cases g1_3
  · intro g1_3
    refine s_val rfl (v_move rfl) (s_yes rfl rfl (s_val rfl (v_nilCheck rfl) (s_yes rfl rfl ?_)))
    refine s_val rfl (v_fieldAddr rfl Tryz.underlying368 rfl Tryz.sizeOf63 rfl (by first | exact Nat.zero_add _ | rfl)) ?_
    refine s_yes rfl rfl (s_val rfl (v_load Tryz.isAgg63 rfl (cell_own rfl)) ?_)
    refine s_yes rfl rfl (s_val rfl (v_eql_ptr_nil Tryz.underlying63 rfl rfl) (s_val rfl (v_pick_f rfl rfl) (s_val rfl (v_assign rfl) (x_nil (n_then (x_ret (x_done (.inl rfl) (.cons (r_tmp rfl) .nil) ?_)))))))
    exact ⟨_, ⟨rfl, rfl⟩, inferInstance⟩
end Go.Proofs.YtnidndllknffgaaGreat
namespace Go.Proofs.YtnidndllknffgaaGreat
open Go.RowKit
set_option linter.unusedSimpArgs false
set_option linter.unusedVariables false
set_option maxRecDepth 20000
end Go.Proofs.YtnidndllknffgaaGreat
namespace Go.Proofs.YtnidndllknffgaaGreat
open Go.RowKit
set_option linter.unusedSimpArgs false
set_option linter.unusedVariables false
set_option maxRecDepth 20000
theorem viNew_spec (W0 : World) (R : List HP) (ps pm : Nat) (fr : List Frm) (pg : List Pl) (h : Pgs pg) (h0 : 0 < fr.length) :
    Spec Tryz.prog W0 90 [.pointer (some ⟨ps, 0, none⟩), .pointer (some ⟨pm, 0, none⟩)] (stoH ps fr :: pt pm (gmO pg) :: R)
      (fun v B => ∃ b, v = .tuple #[.pointer (some ⟨b, 0, none⟩), .int .i64 0] ∧ B = pt b (viO ps pm 0) :: stoH ps fr :: pt pm (gmO pg) :: R) := by
  refine spec_body Tryz.func90 Tryz.ntmps90 rfl rfl ?_
  refine x_seq (x_region (s_val rfl (v_assign rfl) (s_val rfl (v_assign rfl) (x_nil (n_then (x_seq (x_seq (x_region (s_val rfl (v_move rfl) (s_do rfl (d_call1 Tryz.call86 rfl (frLen_spec W0 _ ps fr)) ?_))))))))))
  rintro _ B_ ⟨rfl, hB_⟩
  obtain rfl := hB_.symm
  refine s_val rfl (v_eql rfl rfl) (s_val rfl (v_move rfl) ?_)
  refine s_or rfl rfl rfl ?_ ?_
  · intro g1_4
    omega
  · intro g1_4
    refine s_val rfl (v_move rfl) (s_yes rfl rfl (s_do rfl (d_call1 Tryz.call207 rfl (gmDrop_spec W0 _ pm pg h)) ?_))
    rintro _ B_ ⟨rfl, hB_⟩
    obtain rfl := hB_.symm
    refine s_yes rfl rfl (s_val rfl (v_eql rfl rfl) (s_val rfl (v_pick_f rfl rfl) (x_nil (n_then ?_))))
    refine x_if rfl ?_ ?_
    · intro c1
      exact absurd c1 (by decide)
    · intro c1
      refine x_skip (n_then (x_seq (x_region (s_val rfl (v_move rfl) (s_val rfl (v_move rfl) (s_val rfl (v_build Tryz.underlying368 Tryz.zeroValue368 (sized_cons Tryz.sizeOf63 (sized_cons Tryz.sizeOf207 (sized_cons Tryz.sizeOf42 sized_nil))) (fil_scal rfl Tryz.sizeOf63 rfl rfl (Nat.le_of_ble_eq_true rfl) SetL.eq (fil_scal rfl Tryz.sizeOf207 rfl rfl (Nat.le_of_ble_eq_true rfl) SetL.eq fil_nil))) ?_))))))
      refine s_do rfl (d_boxA rfl) ?_
      rintro _ _ ⟨b1, rfl, rfl⟩
      refine s_val rfl (v_assign rfl) (s_val rfl (v_assign rfl) (x_nil (n_then (x_ret (x_done (.inl rfl) (.cons (r_tmp rfl) (.cons (r_tmp rfl) .nil)) ?_)))))
      exact ⟨_, ⟨b1, rfl, rfl⟩, inferInstance⟩
theorem viMap_spec (W0 : World) (R : List HP) (pv ps pm d : Nat) : Spec Tryz.prog W0 143 [.pointer (some ⟨pv, 0, none⟩)] (pt pv (viO ps pm d) :: R) (fun v B => v = .pointer (some ⟨pm, 0, none⟩) ∧ B = pt pv (viO ps pm d) :: R) := by
  refine spec_body Tryz.func143 Tryz.ntmps143 rfl rfl ?_
  refine x_seq (x_region (s_val rfl (v_assign rfl) (x_nil (n_then (x_seq (x_seq (x_region (s_val rfl (v_move rfl) (s_do rfl (d_call1 Tryz.call276 rfl (viNone_spec W0 _ pv ps pm d)) ?_)))))))))
  rintro _ B_ ⟨rfl, hB_⟩
  obtain rfl := hB_.symm
  refine x_nil (n_then ?_)
  refine x_if rfl ?_ ?_
  · intro c1
    exact absurd c1 (by decide)
  · intro c1
    refine x_skip (n_then (x_seq (x_region (s_val rfl (v_move rfl) (s_val rfl (v_nilCheck rfl) ?_)))))
    refine s_val rfl (v_fieldAddr rfl Tryz.underlying368 rfl Tryz.sizeOf207 rfl (by first | exact Nat.zero_add _ | rfl)) ?_
    refine s_val rfl (v_load Tryz.isAgg207 rfl (cell_own rfl)) ?_
    refine s_val rfl (v_assign rfl) (x_nil (n_then (x_ret (x_done (.inl rfl) (.cons (r_tmp rfl) .nil) ?_))))
    exact ⟨_, ⟨rfl, rfl⟩, inferInstance⟩
def frmB (len : Nat) (pg : List Pl) (n : Int) : Bool := thereB pg n && decide (n < 8) && decide ((gGot pg n).1 < len)
end Go.Proofs.YtnidndllknffgaaGreat
namespace Go.Proofs.YtnidndllknffgaaGreat
open Go.RowKit
set_option linter.unusedSimpArgs false
set_option linter.unusedVariables false
set_option maxRecDepth 20000
end Go.Proofs.YtnidndllknffgaaGreat
namespace Go.Proofs.YtnidndllknffgaaGreat
open Go.RowKit
set_option linter.unusedSimpArgs false
set_option linter.unusedVariables false
set_option maxRecDepth 20000
def pgI (a : Nat) : Int := ((a / 64 : Nat) : Int)
def ownA (len : Nat) (pg : List Pl) (pa n : Nat) : Prop := ∀ i, i < n → frmB len pg (pgI (pa + i)) = true
instance {len : Nat} {pg : List Pl} {pa n : Nat} : Decidable (ownA len pg pa n) := by unfold ownA; exact Nat.decidableBallLT n _
def ownB (len : Nat) (pg : List Pl) (pa : Nat) (n : Int) : Bool := decide (0 ≤ n ∧ pa ≤ 512 ∧ n ≤ 512 - (pa : Int)) && decide (ownA len pg pa n.toNat)
end Go.Proofs.YtnidndllknffgaaGreat
namespace Go.Proofs.YtnidndllknffgaaGreat
open Go.RowKit
set_option linter.unusedSimpArgs false
set_option linter.unusedVariables false
set_option maxRecDepth 20000
def whr (pg : List Pl) (a : Nat) : Int := (gGot pg (pgI a)).1
end Go.Proofs.YtnidndllknffgaaGreat
namespace Go.Proofs.YtnidndllknffgaaGreat
open Go.RowKit
set_option linter.unusedSimpArgs false
set_option linter.unusedVariables false
set_option maxRecDepth 20000
def rdv (fr : List Frm) (pg : List Pl) (a : Nat) : Nat := ldN fr (whr pg a) ((a % 64 : Nat) : Int) 1
def rdL (fr : List Frm) (pg : List Pl) (pa n : Nat) : List Nat := (List.range n).map fun i => rdv fr pg (pa + i)
end Go.Proofs.YtnidndllknffgaaGreat
namespace Go.Proofs.YtnidndllknffgaaGreat
open Go.RowKit
set_option linter.unusedSimpArgs false
set_option linter.unusedVariables false
set_option maxRecDepth 20000
def wrB (d : Dsc) : Bool := decide (d.flags / 2 % 2 = 1)
def goB (d : Dsc) : Bool := decide (d.flags % 2 = 1)
def dsPa (r : Rg3) (at_ : Nat) : Nat := (r.desc + 16 * at_) % 4294967296
def dsAt (fr : List Frm) (pg : List Pl) (r : Rg3) (at_ : Nat) : Dsc := if ownB fr.length pg (dsPa r at_) 16 then dsOf (rdL fr pg (dsPa r at_) 16) else zD
def lk (fr : List Frm) (pg : List Pl) (r : Rg3) (at_ : Int) (n : Nat) (wr : Bool) : Dsc × Int :=
  if at_ < 0 ∨ r.n ≤ at_ then (zD, 1) else if r.n ≤ (n : Int) then (zD, 2) else
  if ownB fr.length pg (dsPa r at_.toNat) 16 = false then (zD, 5) else
  if chkC (dsAt fr pg r at_.toNat) r.n.toNat ≠ 0 then (zD, chkC (dsAt fr pg r at_.toNat) r.n.toNat) else
  if ownB fr.length pg (dsAt fr pg r at_.toNat).addr (dsAt fr pg r at_.toNat).len = false then (zD, 5) else
  if wr = true ∧ wrB (dsAt fr pg r at_.toNat) = false then (zD, 6) else (dsAt fr pg r at_.toNat, 0)
end Go.Proofs.YtnidndllknffgaaGreat
namespace Go.Proofs.YtnidndllknffgaaGreat
open Go.RowKit
set_option linter.unusedSimpArgs false
set_option linter.unusedVariables false
set_option maxRecDepth 20000
abbrev WkS := Int × Bool × List Dsc
def lkS (fr : List Frm) (pg : List Pl) (r : Rg3) (n : Nat) (x : WkS) : Dsc × Int := lk fr pg r x.1 n x.2.1
def wkSt (fr : List Frm) (pg : List Pl) (r : Rg3) (head : Int) : Nat → WkS
  | 0 => (head, false, [])
  | n + 1 => let d := (lkS fr pg r n (wkSt fr pg r head n)).1; ((d.next : Int), wrB d, (wkSt fr pg r head n).2.2 ++ [d])
abbrev lkN (fr : List Frm) (pg : List Pl) (r : Rg3) (head : Int) (n : Nat) : Dsc × Int := lkS fr pg r n (wkSt fr pg r head n)
def alive (fr : List Frm) (pg : List Pl) (r : Rg3) (head : Int) (n : Nat) : Prop := ∀ m, m < n → (lkN fr pg r head m).2 = 0 ∧ goB (lkN fr pg r head m).1 = true
theorem alive.succ {fr : List Frm} {pg : List Pl} {r : Rg3} {head : Int} {n : Nat} (h : alive fr pg r head n) (h1 : (lkN fr pg r head n).2 = 0) (h2 : goB (lkN fr pg r head n).1 = true) : alive fr pg r head (n + 1) := fun m hm => by
  rcases Nat.lt_or_ge m n with q | q
  · exact h m q
  · rw [show m = n by omega]; exact ⟨h1, h2⟩
section
variable {W0 : World} {N : FSz} {K : Act → World → Prop} {e : Env} {A R R1 R2 : List HP} {b n c : Nat} {l : List Dsc} {a : Option Addr} {ys : List Value}
end
end Go.Proofs.YtnidndllknffgaaGreat
namespace Go.Proofs.YtnidndllknffgaaGreat
open Go.RowKit
set_option linter.unusedSimpArgs false
set_option linter.unusedVariables false
set_option maxRecDepth 20000
def inH (p : Value × Frm) : HP := osl 5 1 p.1 (byV p.2)
def rstoH (qs : Nat) (fr : List Frm) : HP := chk (fun C => ∃ a c, ∃ vs : List Value, vs.length = fr.length ∧ C = pt qs (cob [.slice a fr.length c] 193) :: osl 174 1 (.slice a fr.length c) vs :: (vs.zip fr).map inH)
section
variable {P : Program} {W0 : World} {N : FSz} {K : Act → World → Prop} {e : Env} {A B R R1 R2 : List HP} {qs g n : Nat} {fr : List Frm} {f : FuncId} {args : List Value} {Post : Value → List HP → Prop} {l : List Value}
theorem run_rsto [hk : Tk rstoH qs A fr R] (h : ∀ a c vs, vs.length = fr.length → Run W0 N K e (pt qs (cob [.slice a fr.length c] 193) :: osl 174 1 (.slice a fr.length c) vs :: ((vs.zip fr).map inH ++ R))) : Run W0 N K e A :=
  run_tk (r := rstoH) (b := qs) (run_chk fun C hC => by obtain ⟨a, c, vs, h1, rfl⟩ := hC; exact h a c vs h1)
theorem ent_rsto {a : Option Addr} {c : Nat} {vs : List Value} [h1 : Tk pt qs A (cob [.slice a n c] 193) R1] [h2 : Tk (osl 174 1) (.slice a n c) R1 vs ((vs.zip fr).map inH ++ R2)] (hv : vs.length = fr.length) (hn : n = fr.length) [k : Ent R2 B] : Ent A (rstoH qs fr :: B) := by
  subst hn
  have e1 : A.Perm ((pt qs (cob [.slice a fr.length c] 193) :: osl 174 1 (.slice a fr.length c) vs :: (vs.zip fr).map inH) ++ R2) := h1.perm.trans (h2.perm.cons _)
  have e2 : Ent ((pt qs (cob [.slice a fr.length c] 193) :: osl 174 1 (.slice a fr.length c) vs :: (vs.zip fr).map inH) ++ R2) (rstoH qs fr :: R2) := ent_chk ⟨a, c, vs, hv, rfl⟩
  exact (Ent.ofPerm e1).trans (e2.trans (Ent.cons k))
theorem perm_erase {α : Type} : ∀ (l : List α) (i : Nat) (h : i < l.length), l.Perm (l[i] :: l.eraseIdx i)
  | x :: l, 0, h => by simp
  | x :: l, i + 1, h => by
    simp only [List.getElem_cons_succ, List.eraseIdx_cons_succ]
    exact ((perm_erase l i (by simpa using h)).cons x).trans (List.Perm.swap _ _ _)
theorem perm_set {α : Type} : ∀ (l : List α) (i : Nat) (x : α) (h : i < l.length), (x :: l.eraseIdx i).Perm (l.set i x)
  | y :: l, 0, x, h => by simp
  | y :: l, i + 1, x, h => by
    simp only [List.set_cons_succ, List.eraseIdx_cons_succ]
    exact (List.Perm.swap _ _ _).trans ((perm_set l i x (by simpa using h)).cons y)
theorem run_oslT {E sz : Nat} {v : Value} {xs : List Value} [hk : Tk (osl E sz) v A xs R] (h0 : v = .slice none 0 0 → xs = [] → Run W0 N K e R)
    (h1 : ∀ g n cap sp, v = .slice (some ⟨g, 0, none⟩) n cap → n ≤ cap → cap ≤ maxLen → xs.length = n * sz → (xs ++ sp).length = cap * sz → Run W0 N K e (pt g (cob (xs ++ sp) E) :: R)) : Run W0 N K e A :=
  run_tk (r := osl E sz) (b := v) (run_osl h0 h1)
theorem run_rstoN [hk : Tk rstoH qs A fr R] {i : Nat} (hi : i < fr.length) (h : ∀ a c vs vi, vs.length = fr.length → vs[i]? = some vi →
      Run W0 N K e (pt qs (cob [.slice a fr.length c] 193) :: osl 174 1 (.slice a fr.length c) vs :: osl 5 1 vi (byV (fr.getD i [])) :: (((vs.zip fr).map inH).eraseIdx i ++ R))) : Run W0 N K e A := by
  refine run_rsto (qs := qs) fun a c vs hv => ?_
  have hlen : ((vs.zip fr).map inH).length = fr.length := by simp [hv]
  have hiv : i < vs.length := by omega
  have hg : ((vs.zip fr).map inH)[i]'(by omega) = osl 5 1 vs[i] (byV (fr.getD i [])) := by simp [inH, List.getD, hi]
  have hp := perm_erase ((vs.zip fr).map inH) i (by omega)
  rw [hg] at hp
  exact run_perm (((hp.append_right R).cons _).cons _) (h a c vs vs[i] hv (by simp [hiv]))
theorem ent_rstoN {a : Option Addr} {c i : Nat} {vs : List Value} {vi : Value} {y : Frm} {ys : List Value} {R3 : List HP} [h1 : Tk pt qs A (cob [.slice a n c] 193) R1] [h2 : Tk (osl 174 1) (.slice a n c) R1 (vs.set i vi) R2] [h3 : Tk (osl 5 1) vi R2 ys (((vs.zip fr).map inH).eraseIdx i ++ R3)]
    (hy : ys = byV y) (hv : vs.length = fr.length) (hn : n = fr.length) (hi : i < fr.length) [k : Ent R3 B] : Ent A (rstoH qs (fr.set i y) :: B) := by
  subst hy
  have e1 : A.Perm (pt qs (cob [.slice a n c] 193) :: osl 174 1 (.slice a n c) (vs.set i vi) :: ((((vs.set i vi).zip (fr.set i y)).map inH) ++ R3)) := by
    refine h1.perm.trans ((h2.perm.trans ((h3.perm.trans ?_).cons _)).cons _)
    have hs : ((vs.set i vi).zip (fr.set i y)).map inH = ((vs.zip fr).map inH).set i (inH (vi, y)) := by
      apply List.ext_getElem
      · simp
      · intro j h1 h2
        by_cases e : j = i
        · subst e; simp
        · have e' : ¬ i = j := fun h => e h.symm
          simp [List.getElem_set, e']
    rw [hs]
    have := perm_set ((vs.zip fr).map inH) i (inH (vi, y)) (by simp [hv]; exact hi)
    exact this.append_right R3
  exact (Ent.ofPerm e1).trans (ent_rsto (vs := vs.set i vi) (by simp [hv]) (by simp [hn]))
theorem shut_rsto {c i g2 n2 c2 : Nat} {vs vs' sp sp2 ys : List Value} {y : Frm} {vi : Value} {R3 : List HP} [h1 : Tk pt qs A (cob [.slice (some ⟨g, 0, none⟩) n c] 193) R1] [h2 : Tk pt g R1 (cob (vs' ++ sp) 174) R2] [h3 : Tk pt g2 R2 (cob (ys ++ sp2) 5) R3]
    (hvs : vs' = vs.set i vi) (hvi : vi = .slice (some ⟨g2, 0, none⟩) n2 c2) (hy : ys = byV y) (hv : vs.length = fr.length) (hn : n = fr.length) (hi : i < fr.length) (a1 : n ≤ c) (a2 : c ≤ maxLen) (a3 : (vs' ++ sp).length = c * 1) (b1 : n2 ≤ c2) (b2 : c2 ≤ maxLen) (b3 : ys.length = n2 * 1) (b4 : (ys ++ sp2).length = c2 * 1) [k : Ent R3 (((vs.zip fr).map inH).eraseIdx i ++ B)] : Ent A (rstoH qs (fr.set i y) :: B) := by
  subst hvs
  subst hvi
  have e1 : A.Perm (pt qs (cob [.slice (some ⟨g, 0, none⟩) n c] 193) :: pt g (cob (vs.set i (.slice (some ⟨g2, 0, none⟩) n2 c2) ++ sp) 174) :: pt g2 (cob (ys ++ sp2) 5) :: R3) := h1.perm.trans ((h2.perm.trans (h3.perm.cons _)).cons _)
  have e2 : Ent (pt g2 (cob (ys ++ sp2) 5) :: R3) (osl 5 1 (.slice (some ⟨g2, 0, none⟩) n2 c2) ys :: (((vs.zip fr).map inH).eraseIdx i ++ B)) := ent_osl b1 b2 b3 b4
  have e3 : Ent (pt g (cob (vs.set i (.slice (some ⟨g2, 0, none⟩) n2 c2) ++ sp) 174) :: osl 5 1 (.slice (some ⟨g2, 0, none⟩) n2 c2) ys :: (((vs.zip fr).map inH).eraseIdx i ++ B)) (osl 174 1 (.slice (some ⟨g, 0, none⟩) n c) (vs.set i (.slice (some ⟨g2, 0, none⟩) n2 c2)) :: osl 5 1 (.slice (some ⟨g2, 0, none⟩) n2 c2) ys :: (((vs.zip fr).map inH).eraseIdx i ++ B)) := ent_osl a1 a2 (by simp [hv, hn]) a3
  exact (Ent.ofPerm e1).trans ((Ent.cons ((Ent.cons e2).trans e3)).trans (ent_rstoN (vi := .slice (some ⟨g2, 0, none⟩) n2 c2) hy hv hn hi))
end
theorem set_self {fr : List Frm} {i : Nat} (hi : i < fr.length) : fr.set i (fr.getD i []) = fr := by
  rw [show fr.getD i [] = fr[i] by simp [List.getD, hi]]; exact List.set_getElem_self _
theorem set_selfV {vs : List Value} {i : Nat} {v : Value} (h : vs[i]? = some v) : vs.set i v = vs := by
  have hi : i < vs.length := by
    rcases Nat.lt_or_ge i vs.length with k | k
    · exact k
    · rw [List.getElem?_eq_none k] at h; cases h
  have : vs[i] = v := by simpa [hi] using h
  rw [← this]; exact List.set_getElem_self _
theorem rfIs_spec (W0 : World) (R : List HP) (qs : Nat) (fr : List Frm) (f : Int) :
    Spec Tryz.prog W0 192 [.pointer (some ⟨qs, 0, none⟩), .int .i64 f] (rstoH qs fr :: R) (fun v B => v = .bool (isF fr.length f) ∧ B = rstoH qs fr :: R) := by
  refine spec_body Tryz.func192 Tryz.ntmps192 rfl rfl ?_
  refine x_seq (x_region (s_val rfl (v_assign rfl) (x_nil (n_then (x_seq ?_)))))
  refine run_rsto (qs := qs) fun a c vs hv => ?_
  refine x_region (s_val rfl (v_move rfl) (s_val rfl (v_geq rfl rfl) (s_val rfl (v_move rfl) ?_)))
  refine s_and rfl rfl rfl ?_ ?_
  · intro g1_3
    refine s_val rfl (v_move rfl) (s_yes rfl rfl (s_val rfl (v_move rfl) (s_yes rfl rfl (s_val rfl (v_nilCheck rfl) (s_yes rfl rfl ?_)))))
    refine s_val rfl (v_fieldAddr rfl Tryz.underlying193 rfl Tryz.sizeOf191 rfl (by first | exact Nat.zero_add _ | rfl)) ?_
    refine s_yes rfl rfl (s_val rfl (v_load Tryz.isAgg191 rfl (cell_own rfl)) ?_)
    refine s_yes rfl rfl (s_val rfl (v_len_slice Tryz.underlying191 rfl) (s_yes rfl rfl (s_val rfl (v_lss rfl rfl) (s_val rfl (v_pick_t rfl rfl) (s_val rfl (v_assign rfl) (x_nil (n_then (x_ret (x_done (.inl rfl) (.cons (r_tmp rfl) .nil) ?_)))))))))
    refine ⟨_, ⟨congrArg Value.bool ?_, rfl⟩, ent_rsto hv rfl⟩
    rw [Bool.eq_iff_iff]; simp only [isF, decide_eq_true_eq, Bool.false_eq_true, false_iff]; omega
  · intro g1_3
    refine s_no rfl rfl rfl rfl (s_no rfl rfl rfl rfl (s_no rfl rfl rfl rfl (s_no rfl rfl rfl rfl (s_no rfl rfl rfl rfl (s_no rfl rfl rfl rfl (s_val rfl (v_pick_f rfl rfl) (s_val rfl (v_assign rfl) (x_nil (n_then (x_ret (x_done (.inl rfl) (.cons (r_tmp rfl) .nil) ?_)))))))))))
    refine ⟨_, ⟨congrArg Value.bool ?_, rfl⟩, ent_rsto hv rfl⟩
    rw [Bool.eq_iff_iff]; simp only [isF, decide_eq_true_eq, Bool.false_eq_true, false_iff]; omega
theorem refPutN_ok {W0 : World} {R : List HP} {g off c n : Nat} {l : List Nat} {i k w : Nat} (hl : l.length = n) (hw : w < 4294967296) (hc : Cells (OwnP W0 R) g off (byV l)) (hi : inB n i k = true) (hn : n ≤ 1000000) :
    Spec Tryz.prog W0 362 [.slice (some ⟨g, off, none⟩) n c, .int .i64 i, .int .i64 k, .int .u32 w] R (fun v B => ∃ a' c', v = putV a' n c' ∧ B = osl 5 1 (.slice a' n c') (byV (putB l i k w)) :: R) := by
  subst hl; exact refPut_ok W0 R g off c l i k w hw hc hi hn
theorem byV_front {x : Frm} {sp : List Value} (h : x.length = 64) : ((byV x ++ sp).drop 0).take 64 = byV x := by
  rw [List.drop_zero, List.take_left' (by rw [byV_len, h])]
theorem rfSave_spec (W0 : World) (R : List HP) (qs : Nat) (fr : List Frm) (f off w : Int) (x : Nat) (hx : x < 4294967296) (hF : Frs fr) :
    Spec Tryz.prog W0 310 [.pointer (some ⟨qs, 0, none⟩), .int .i64 f, .int .i64 off, .int .i64 w, .int .u32 x] (rstoH qs fr :: R)
      (fun v B => v = .int .i64 (if svOk fr f off w then 0 else 1) ∧ B = rstoH qs (svF fr f off w x) :: R) := by
  by_cases hf : isF fr.length f = true
  · obtain ⟨i, rfl, hi⟩ := isF_nat hf
    obtain ⟨hl, hb⟩ := hF.get hi
    by_cases hin : inB 64 off w = true
    · obtain ⟨o, k, rfl, rfl, hk, hok⟩ := inB_nat hin
      have hs : svOk fr i o k = true := by simp [svOk, hf, hin]
      have hpl : (putB (fr.getD i []) o k x).length = 64 := by rw [putB_len (by omega)]; exact hl
      refine spec_body Tryz.func310 Tryz.ntmps310 rfl rfl ?_
      refine x_seq (x_region (s_val rfl (v_assign rfl) (x_nil (n_then (x_seq (x_seq (x_region (s_val rfl (v_move rfl) (s_val rfl (v_move rfl) (s_do rfl (d_call1 Tryz.call192 rfl (rfIs_spec W0 _ qs fr i)) ?_))))))))))
      rintro _ B_ ⟨rfl, hB_⟩
      obtain rfl := hB_.symm
      refine s_val rfl (v_not rfl) (x_nil (n_then ?_))
      refine x_if rfl ?_ ?_
      · intro c1
        exact absurd c1 (by simp [hf])
      · intro c1
        refine x_skip (n_then (x_seq ?_))
        refine run_rstoN (qs := qs) hi fun a c vs vi hv hvi => ?_
        refine run_oslT (E := 5) (sz := 1) (v := vi) (fun h1 h2 => by have := congrArg List.length h2; rw [byV_len, hl] at this; cases this) fun g2 n2 c2 sp2 k1 k2 k3 k4 k5 => ?_
        obtain rfl : n2 = 64 := by rw [byV_len, hl] at k4; omega
        subst k1
        refine run_oslT (E := 174) (sz := 1) (v := .slice a fr.length c) (fun h1 h2 => by have := (Value.slice.inj h1).2.1; omega) fun g n c' sp h1 h2 h3 h4 h5 => ?_
        cases h1
        refine x_region (s_val rfl (v_move rfl) (s_val rfl (v_nilCheck rfl) ?_))
        refine s_val rfl (v_fieldAddr rfl Tryz.underlying193 rfl Tryz.sizeOf191 rfl (by first | exact Nat.zero_add _ | rfl)) ?_
        refine s_val rfl (v_load Tryz.isAgg191 rfl (cell_own rfl)) ?_
        refine s_val rfl (v_move rfl) ?_
        refine s_val rfl (v_idx Tryz.underlying191 Tryz.sizeOf174 rfl rfl rfl hi (by first | exact Nat.zero_add _ | rfl)) ?_
        refine s_val rfl (v_load Tryz.isAgg174 rfl (cell_own (by rw [Nat.mul_one, List.getElem?_append_left (by omega)]; exact hvi))) ?_
        refine s_val rfl (v_move rfl) (s_val rfl (v_move rfl) (s_val rfl (v_move rfl) ?_))
        refine s_do rfl (d_call Tryz.call362 rfl (refPutN_ok hl hx (cells_part (byV_front hl) (by rw [byV_len, hl])) hin (by decide))) ?_
        rintro _ B_ ⟨a', c', rfl, hB_⟩
        obtain rfl := hB_.symm
        refine run_oslT (E := 5) (sz := 1) (v := .slice a' 64 c') (fun h1 h2 => by have := (Value.slice.inj h1).2.1; omega) fun g3 n3 c3 sp3 q1 q2 q3 q4 q5 => ?_
        cases q1
        refine s_val rfl (v_move rfl) (s_val rfl (v_extract rfl rfl) (s_val rfl (v_extract rfl rfl) (s_val rfl (v_assign rfl) (s_val rfl (v_assign rfl) (x_nil (n_then (x_seq (x_seq (x_region (s_val rfl (v_move rfl) (s_val rfl (v_eql rfl rfl) (x_nil (n_then ?_)))))))))))))
        refine x_if rfl ?_ ?_
        · intro c4
          refine x_region (s_val rfl (v_move rfl) (s_val rfl (v_nilCheck rfl) ?_))
          refine s_val rfl (v_fieldAddr rfl Tryz.underlying193 rfl Tryz.sizeOf191 rfl (by first | exact Nat.zero_add _ | rfl)) ?_
          refine s_val rfl (v_load Tryz.isAgg191 rfl (cell_own rfl)) ?_
          refine s_val rfl (v_move rfl) (s_val rfl (v_move rfl) ?_)
          refine s_val rfl (v_idx Tryz.underlying191 Tryz.sizeOf174 rfl rfl rfl hi (by first | exact Nat.zero_add _ | rfl)) ?_
          refine s_do0 (d_store Tryz.sizeOf174 rfl rfl rfl (by rw [List.length_append]; omega) (by rw [Nat.mul_one, List.set_append_left _ _ (by omega)])) ?_
          rintro _ _ rfl
          refine x_nil (n_then (x_seq (x_region (s_val rfl (v_move rfl) (s_val rfl (v_assign rfl) (x_nil (n_then (x_ret (x_done (.inl rfl) (.cons (r_tmp rfl) .nil) ?_)))))))))
          rw [show svF fr i o k x = fr.set i (putB (fr.getD i []) o k x) by simp [svF, hs]]
          exact ⟨_, ⟨by simp [pack, hs], rfl⟩, shut_rsto (vs := vs) (vi := .slice (some ⟨g3, 0, none⟩) 64 c') rfl rfl rfl hv rfl hi h2 h3 (by rw [← h5]; simp) q2 q3 q4 q5⟩
        · intro c4
          exact absurd rfl c4
    · have hin' : inB 64 off w = false := by simpa using hin
      have hs : svOk fr i off w = false := by simp [svOk, hin']
      refine spec_body Tryz.func310 Tryz.ntmps310 rfl rfl ?_
      refine x_seq (x_region (s_val rfl (v_assign rfl) (x_nil (n_then (x_seq (x_seq (x_region (s_val rfl (v_move rfl) (s_val rfl (v_move rfl) (s_do rfl (d_call1 Tryz.call192 rfl (rfIs_spec W0 _ qs fr i)) ?_))))))))))
      rintro _ B_ ⟨rfl, hB_⟩
      obtain rfl := hB_.symm
      refine s_val rfl (v_not rfl) (x_nil (n_then ?_))
      refine x_if rfl ?_ ?_
      · intro c1
        exact absurd c1 (by simp [hf])
      · intro c1
        refine x_skip (n_then (x_seq ?_))
        refine run_rstoN (qs := qs) hi fun a c vs vi hv hvi => ?_
        refine run_oslT (E := 5) (sz := 1) (v := vi) (fun h1 h2 => by have := congrArg List.length h2; rw [byV_len, hl] at this; cases this) fun g2 n2 c2 sp2 k1 k2 k3 k4 k5 => ?_
        obtain rfl : n2 = 64 := by rw [byV_len, hl] at k4; omega
        subst k1
        refine run_oslT (E := 174) (sz := 1) (v := .slice a fr.length c) (fun h1 h2 => by have := (Value.slice.inj h1).2.1; omega) fun g n c' sp h1 h2 h3 h4 h5 => ?_
        cases h1
        refine x_region (s_val rfl (v_move rfl) (s_val rfl (v_nilCheck rfl) ?_))
        refine s_val rfl (v_fieldAddr rfl Tryz.underlying193 rfl Tryz.sizeOf191 rfl (by first | exact Nat.zero_add _ | rfl)) ?_
        refine s_val rfl (v_load Tryz.isAgg191 rfl (cell_own rfl)) ?_
        refine s_val rfl (v_move rfl) ?_
        refine s_val rfl (v_idx Tryz.underlying191 Tryz.sizeOf174 rfl rfl rfl hi (by first | exact Nat.zero_add _ | rfl)) ?_
        refine s_val rfl (v_load Tryz.isAgg174 rfl (cell_own (by rw [Nat.mul_one, List.getElem?_append_left (by omega)]; exact hvi))) ?_
        refine s_val rfl (v_move rfl) (s_val rfl (v_move rfl) (s_val rfl (v_move rfl) ?_))
        refine s_do rfl (d_call Tryz.call362 rfl (refPut_no W0 _ _ 64 c2 off w x hin' (by decide))) ?_
        rintro _ B_ ⟨rfl, hB_⟩
        obtain rfl := hB_.symm
        refine s_val rfl (v_move rfl) (s_val rfl (v_extract rfl rfl) (s_val rfl (v_extract rfl rfl) (s_val rfl (v_assign rfl) (s_val rfl (v_assign rfl) (x_nil (n_then (x_seq (x_seq (x_region (s_val rfl (v_move rfl) (s_val rfl (v_eql rfl rfl) (x_nil (n_then ?_)))))))))))))
        refine x_if rfl ?_ ?_
        · intro c4
          exact absurd c4 (by decide)
        · intro c4
          refine x_skip (n_then (x_seq (x_region (s_val rfl (v_move rfl) (s_val rfl (v_assign rfl) (x_nil (n_then (x_ret (x_done (.inl rfl) (.cons (r_tmp rfl) .nil) ?_)))))))))
          rw [show svF fr i off w x = fr by simp [svF, hs]]
          refine ⟨_, ⟨by simp [pack, hs], rfl⟩, ?_⟩
          have e := set_self hi
          conv => rhs; rw [← e]
          exact shut_rsto (vs := vs) (set_selfV hvi).symm rfl rfl hv rfl hi h2 h3 h5 k2 k3 k4 k5
  · have hf' : isF fr.length f = false := by simpa using hf
    have hs : svOk fr f off w = false := by simp [svOk, hf']
    refine spec_body Tryz.func310 Tryz.ntmps310 rfl rfl ?_
    refine x_seq (x_region (s_val rfl (v_assign rfl) (x_nil (n_then (x_seq (x_seq (x_region (s_val rfl (v_move rfl) (s_val rfl (v_move rfl) (s_do rfl (d_call1 Tryz.call192 rfl (rfIs_spec W0 _ qs fr f)) ?_))))))))))
    rintro _ B_ ⟨rfl, hB_⟩
    obtain rfl := hB_.symm
    refine s_val rfl (v_not rfl) (x_nil (n_then ?_))
    refine x_if rfl ?_ ?_
    · intro c1
      refine x_seq (x_region (s_val rfl (v_assign rfl) (x_nil (n_then (x_ret (r_then (x_done (.inl rfl) (.cons (r_tmp rfl) .nil) ?_)))))))
      rw [show svF fr f off w x = fr by simp [svF, hs]]
      exact ⟨_, ⟨by simp [pack, hs], rfl⟩, inferInstance⟩
    · intro c1
      exact absurd c1 (by simp [hf'])
end Go.Proofs.YtnidndllknffgaaGreat
namespace Go.Proofs.YtnidndllknffgaaGreat
open Go.RowKit
set_option linter.unusedSimpArgs false
set_option linter.unusedVariables false
set_option maxRecDepth 20000
theorem ent_rsto_snoc {A B R1 R2 R3 : List HP} {qs n c g2 : Nat} {a : Option Addr} {vs ys : List Value} {vi : Value} {fr : List Frm} {y : Frm} [h1 : Tk pt qs A (cob [.slice a n c] 193) R1] [h2 : Tk (osl 174 1) (.slice a n c) R1 (vs ++ [vi]) R2] [h3 : Tk pt g2 R2 (cob ys 5) R3]
    (hvi : vi = .slice (some ⟨g2, 0, none⟩) 64 64) (hy : ys = byV y) (hl : y.length = 64) (hv : vs.length = fr.length) (hn : n = fr.length + 1) [k : Ent R3 ((vs.zip fr).map inH ++ B)] : Ent A (rstoH qs (fr ++ [y]) :: B) := by
  subst hvi; subst hy
  have e1 : A.Perm (pt qs (cob [.slice a n c] 193) :: osl 174 1 (.slice a n c) (vs ++ [.slice (some ⟨g2, 0, none⟩) 64 64]) :: pt g2 (cob (byV y ++ []) 5) :: R3) := by
    rw [List.append_nil]; exact h1.perm.trans ((h2.perm.trans (h3.perm.cons _)).cons _)
  have e2 : Ent (pt g2 (cob (byV y ++ []) 5) :: R3) (osl 5 1 (.slice (some ⟨g2, 0, none⟩) 64 64) (byV y) :: ((vs.zip fr).map inH ++ B)) := ent_osl (Nat.le_refl _) (by simp only [maxLen]; omega) (by rw [byV_len, hl]) (by rw [List.append_nil, byV_len, hl])
  have e3 : ((vs ++ [Value.slice (some ⟨g2, 0, none⟩) 64 64]).zip (fr ++ [y])).map inH = (vs.zip fr).map inH ++ [osl 5 1 (.slice (some ⟨g2, 0, none⟩) 64 64) (byV y)] := by
    rw [List.zip_append hv, List.map_append]; rfl
  have e4 : (osl 5 1 (.slice (some ⟨g2, 0, none⟩) 64 64) (byV y) :: ((vs.zip fr).map inH ++ B)).Perm (((vs ++ [Value.slice (some ⟨g2, 0, none⟩) 64 64]).zip (fr ++ [y])).map inH ++ B) := by
    rw [e3, List.append_assoc]; exact List.perm_middle.symm
  exact (Ent.ofPerm e1).trans ((Ent.cons (Ent.cons (e2.trans (Ent.ofPerm e4)))).trans (ent_rsto (vs := vs ++ [.slice (some ⟨g2, 0, none⟩) 64 64]) (by simp [hv]) (by simp [hn])))
theorem rfNew_spec (W0 : World) (R : List HP) (n : Nat) (h : n ≤ 32) :
    Spec Tryz.prog W0 76 [.int .i64 n] R (fun v B => ∃ b, v = .tuple #[.pointer (some ⟨b, 0, none⟩), .int .i64 0] ∧ B = rstoH b (List.replicate n zeros) :: R) := by
  refine spec_body Tryz.func76 Tryz.ntmps76 rfl rfl ?_
  refine x_seq (x_region (s_val rfl (v_assign rfl) (s_val rfl (v_assign rfl) (x_nil (n_then (x_seq (x_seq (x_region (s_val rfl (v_move rfl) (s_val rfl (v_lss rfl rfl) (s_val rfl (v_move rfl) ?_)))))))))))
  refine s_or rfl rfl rfl ?_ ?_
  · intro g1_3
    omega
  · intro g1_3
    refine s_val rfl (v_move rfl) (s_yes rfl rfl (s_val rfl (v_gtr rfl rfl) (s_val rfl (v_pick_f rfl rfl) (x_nil (n_then ?_)))))
    refine x_if rfl ?_ ?_
    · intro c1
      omega
    · intro c1
      refine x_skip (n_then (x_seq (x_region (s_val rfl (v_build Tryz.underlying193 Tryz.zeroValue193 (sized_cons Tryz.sizeOf191 sized_nil) fil_nil) ?_))))
      refine s_do rfl (d_boxA rfl) ?_
      rintro _ _ ⟨b1, rfl, rfl⟩
      refine s_val rfl (v_assign rfl) (x_nil (n_then (x_seq (x_seq (x_region (s_val rfl (v_assign rfl) (x_nil (n_then (x_block ?_)))))))))
      refine x_loop (fun i : Nat => i ≤ n) (fun i => [(0, .int .i64 n), (4, .pointer (some ⟨b1, 0, none⟩)), (5, .int .i64 i)]) (fun i => rstoH b1 (List.replicate i zeros) :: R) (fun i => n - i) 0 ?_ ?_ ?_ ?_
      · exact Nat.zero_le _
      · repeat (first | exact sub_nil | refine sub_cons rfl ?_)
      · exact (Ent.cons (ent_osl_nil (B := R))).trans (ent_chk (R := R) (C := [_, _]) ⟨none, 0, [], rfl, rfl⟩)
      · intro i hi
        refine x_seq (x_seq (x_region (s_val rfl (v_move rfl) (s_val rfl (v_move rfl) (s_val rfl (v_lss rfl rfl) (x_nil (n_then ?_)))))))
        refine x_if rfl ?_ ?_
        · intro c5
          refine x_skip (n_then (x_seq (x_block ?_)))
          refine run_rsto (qs := b1) fun a c vs hv => ?_
          rw [List.length_replicate] at hv ⊢
          refine x_draw [] 11 mixed rfl sc_end (fun hS => ?_)
          refine d_take 0 rfl rfl (by kernel_rfl) (by kernel_rfl) (by kernel_rfl) rfl hS (v_move rfl) ?_
          refine d_take 1 rfl rfl (by kernel_rfl) (by kernel_rfl) (by kernel_rfl) rfl hS (v_move rfl) ?_
          refine d_take 2 rfl rfl (by kernel_rfl) (by kernel_rfl) (by kernel_rfl) rfl hS (v_nilCheck rfl) ?_
          refine d_take 3 rfl rfl (by kernel_rfl) (by kernel_rfl) (by kernel_rfl) rfl hS (v_fieldAddr rfl Tryz.underlying193 rfl Tryz.sizeOf191 rfl (by first | exact Nat.zero_add _ | rfl)) ?_
          refine d_all (is := [4, 5]) (by kernel_rfl) rfl ⟨?_, ?_, trivial⟩
          · skip
            refine dx_one rfl rfl (d_val (v_load Tryz.isAgg191 rfl (cell_own rfl))) rfl ?_; clear hS
            rintro _ _ ⟨rfl, rfl⟩
            refine ⟨sc_end, fun hS => ?_⟩
            refine d_one 5 (by kernel_rfl) rfl rfl (d_make (sz := 1) (by_ := 1) (info := Tryz.t5) Tryz.underlying174 (by kernel_rfl) rfl rfl rfl rfl (by decide) rfl rfl rfl rfl (by decide) (by decide)) rfl ?_; clear hS
            rintro _ _ ⟨b2, rfl, rfl⟩
            refine ⟨sc_end, fun hS => ?_⟩
            refine d_one 6 (by kernel_rfl) rfl rfl (d_sliceLit Tryz.underlying191 Tryz.sizeOf174 Tryz.zeroValue174 rfl rfl rfl rfl rfl (by decide) (by decide)) rfl ?_; clear hS
            rintro _ _ ⟨b3, rfl, rfl⟩
            refine ⟨sc_end, fun hS => ?_⟩
            refine d_one 7 (by kernel_rfl) rfl rfl (d_append (sz := 1) (by_ := 24) (info := Tryz.t174) Tryz.underlying191 (by kernel_rfl) rfl rfl rfl rfl (by decide) rfl rfl cells_all rfl rfl (by simp only [maxLen]; omega) (by omega)) rfl ?_; clear hS
            rintro _ B_ ⟨a1, c1, rfl, hB_⟩
            obtain rfl := hB_.symm
            refine ⟨sc_end, fun hS => ?_⟩
            refine d_take 8 rfl rfl (by kernel_rfl) (by kernel_rfl) (by kernel_rfl) rfl hS (v_nilCheck rfl) ?_
            refine d_take 9 rfl rfl (by kernel_rfl) (by kernel_rfl) (by kernel_rfl) rfl hS (v_fieldAddr rfl Tryz.underlying193 rfl Tryz.sizeOf191 rfl (by first | exact Nat.zero_add _ | rfl)) ?_
            refine d_one 10 (by kernel_rfl) rfl rfl (d_store Tryz.sizeOf191 rfl rfl rfl (Nat.le_of_ble_eq_true rfl) SetL.eq) rfl ?_; clear hS
            rintro _ _ rfl
            refine ⟨sc_end, fun hS => ?_⟩
            refine d_done (by kernel_rfl) ?_; clear hS
            refine n_block (n_then (x_region (s_val rfl (v_move rfl) ?_)))
            refine s_val rfl (v_add rfl rfl (by first | exact w64 (by omega) | rfl)) ?_
            refine s_val rfl (v_assign rfl) (x_nil (n_then ?_))
            refine inv_intro (i + 1) ?_ ?_ ?_ ?_
            · omega
            · omega
            · repeat (first | exact sub_nil | refine sub_cons rfl ?_)
            · rw [show List.replicate (i + 1) zeros = List.replicate i zeros ++ [zeros] from List.replicate_succ']; exact ent_rsto_snoc (vs := vs) (n := i + 1) (a := a1) (c := c1) (g2 := b2) (ys := List.replicate (64 * 1) (.int .u8 0)) (y := zeros) (vi := .slice (some ⟨b2, 0, none⟩) 64 64) (fr := List.replicate i zeros) rfl rfl (by simp [zeros]) (by simp [hv]) (by simp)
          · skip
            refine dx_one rfl rfl (d_make (sz := 1) (by_ := 1) (info := Tryz.t5) Tryz.underlying174 (by kernel_rfl) rfl rfl rfl rfl (by decide) rfl rfl rfl rfl (by decide) (by decide)) rfl ?_; clear hS
            rintro _ _ ⟨b2, rfl, rfl⟩
            refine ⟨sc_end, fun hS => ?_⟩
            refine d_all (is := [4, 6]) (by kernel_rfl) rfl ⟨?_, ?_, trivial⟩
            · skip
              refine dx_one rfl rfl (d_val (v_load Tryz.isAgg191 rfl (cell_own rfl))) rfl ?_; clear hS
              rintro _ _ ⟨rfl, rfl⟩
              refine ⟨sc_end, fun hS => ?_⟩
              refine d_one 6 (by kernel_rfl) rfl rfl (d_sliceLit Tryz.underlying191 Tryz.sizeOf174 Tryz.zeroValue174 rfl rfl rfl rfl rfl (by decide) (by decide)) rfl ?_; clear hS
              rintro _ _ ⟨b3, rfl, rfl⟩
              refine ⟨sc_end, fun hS => ?_⟩
              refine d_one 7 (by kernel_rfl) rfl rfl (d_append (sz := 1) (by_ := 24) (info := Tryz.t174) Tryz.underlying191 (by kernel_rfl) rfl rfl rfl rfl (by decide) rfl rfl cells_all rfl rfl (by simp only [maxLen]; omega) (by omega)) rfl ?_; clear hS
              rintro _ B_ ⟨a1, c1, rfl, hB_⟩
              obtain rfl := hB_.symm
              refine ⟨sc_end, fun hS => ?_⟩
              refine d_take 8 rfl rfl (by kernel_rfl) (by kernel_rfl) (by kernel_rfl) rfl hS (v_nilCheck rfl) ?_
              refine d_take 9 rfl rfl (by kernel_rfl) (by kernel_rfl) (by kernel_rfl) rfl hS (v_fieldAddr rfl Tryz.underlying193 rfl Tryz.sizeOf191 rfl (by first | exact Nat.zero_add _ | rfl)) ?_
              refine d_one 10 (by kernel_rfl) rfl rfl (d_store Tryz.sizeOf191 rfl rfl rfl (Nat.le_of_ble_eq_true rfl) SetL.eq) rfl ?_; clear hS
              rintro _ _ rfl
              refine ⟨sc_end, fun hS => ?_⟩
              refine d_done (by kernel_rfl) ?_; clear hS
              refine n_block (n_then (x_region (s_val rfl (v_move rfl) ?_)))
              refine s_val rfl (v_add rfl rfl (by first | exact w64 (by omega) | rfl)) ?_
              refine s_val rfl (v_assign rfl) (x_nil (n_then ?_))
              refine inv_intro (i + 1) ?_ ?_ ?_ ?_
              · omega
              · omega
              · repeat (first | exact sub_nil | refine sub_cons rfl ?_)
              · rw [show List.replicate (i + 1) zeros = List.replicate i zeros ++ [zeros] from List.replicate_succ']; exact ent_rsto_snoc (vs := vs) (n := i + 1) (a := a1) (c := c1) (g2 := b2) (ys := List.replicate (64 * 1) (.int .u8 0)) (y := zeros) (vi := .slice (some ⟨b2, 0, none⟩) 64 64) (fr := List.replicate i zeros) rfl rfl (by simp [zeros]) (by simp [hv]) (by simp)
            · skip
              refine dx_one rfl rfl (d_sliceLit Tryz.underlying191 Tryz.sizeOf174 Tryz.zeroValue174 rfl rfl rfl rfl rfl (by decide) (by decide)) rfl ?_; clear hS
              rintro _ _ ⟨b3, rfl, rfl⟩
              refine ⟨sc_end, fun hS => ?_⟩
              refine d_one 4 (by kernel_rfl) rfl rfl (d_val (v_load Tryz.isAgg191 rfl (cell_own rfl))) rfl ?_; clear hS
              rintro _ _ ⟨rfl, rfl⟩
              refine ⟨sc_end, fun hS => ?_⟩
              refine d_one 7 (by kernel_rfl) rfl rfl (d_append (sz := 1) (by_ := 24) (info := Tryz.t174) Tryz.underlying191 (by kernel_rfl) rfl rfl rfl rfl (by decide) rfl rfl cells_all rfl rfl (by simp only [maxLen]; omega) (by omega)) rfl ?_; clear hS
              rintro _ B_ ⟨a1, c1, rfl, hB_⟩
              obtain rfl := hB_.symm
              refine ⟨sc_end, fun hS => ?_⟩
              refine d_take 8 rfl rfl (by kernel_rfl) (by kernel_rfl) (by kernel_rfl) rfl hS (v_nilCheck rfl) ?_
              refine d_take 9 rfl rfl (by kernel_rfl) (by kernel_rfl) (by kernel_rfl) rfl hS (v_fieldAddr rfl Tryz.underlying193 rfl Tryz.sizeOf191 rfl (by first | exact Nat.zero_add _ | rfl)) ?_
              refine d_one 10 (by kernel_rfl) rfl rfl (d_store Tryz.sizeOf191 rfl rfl rfl (Nat.le_of_ble_eq_true rfl) SetL.eq) rfl ?_; clear hS
              rintro _ _ rfl
              refine ⟨sc_end, fun hS => ?_⟩
              refine d_done (by kernel_rfl) ?_; clear hS
              refine n_block (n_then (x_region (s_val rfl (v_move rfl) ?_)))
              refine s_val rfl (v_add rfl rfl (by first | exact w64 (by omega) | rfl)) ?_
              refine s_val rfl (v_assign rfl) (x_nil (n_then ?_))
              refine inv_intro (i + 1) ?_ ?_ ?_ ?_
              · omega
              · omega
              · repeat (first | exact sub_nil | refine sub_cons rfl ?_)
              · rw [show List.replicate (i + 1) zeros = List.replicate i zeros ++ [zeros] from List.replicate_succ']; exact ent_rsto_snoc (vs := vs) (n := i + 1) (a := a1) (c := c1) (g2 := b2) (ys := List.replicate (64 * 1) (.int .u8 0)) (y := zeros) (vi := .slice (some ⟨b2, 0, none⟩) 64 64) (fr := List.replicate i zeros) rfl rfl (by simp [zeros]) (by simp [hv]) (by simp)
        · intro c5
          refine x_exit (e_then (e_then (e_block (n_then (x_seq (x_region (s_val rfl (v_move rfl) (s_val rfl (v_assign rfl) (s_val rfl (v_assign rfl) (x_nil (n_then (x_ret (x_done (.inl rfl) (.cons (r_tmp rfl) (.cons (r_tmp rfl) .nil)) ?_)))))))))))))
          have : i = n := by omega
          subst this
          exact ⟨_, ⟨b1, rfl, rfl⟩, inferInstance⟩
end Go.Proofs.YtnidndllknffgaaGreat
namespace Go.Proofs.YtnidndllknffgaaGreat
open Go.RowKit
set_option linter.unusedSimpArgs false
set_option linter.unusedVariables false
set_option maxRecDepth 20000
def thV (p : Pl) : Value := .bool (decide (p ≠ (0, 0)))
abbrev rgO (pg : List Pl) : Obj := cob (pg.map thV ++ pg.flatMap plV) 241
theorem th_row {pg : List Pl} {sp : List Value} {i : Nat} (hi : i < pg.length) : ((pg.map thV ++ sp).drop (i * 1)).take 1 = [thV (plAt pg i)] := by
  rw [Nat.mul_one, List.drop_append_of_le_length (by simp; omega), ← List.map_drop, List.drop_eq_getElem_cons hi, List.map_cons, List.cons_append, List.take_succ_cons, List.take_zero]
  simp [plAt, List.getD, hi]
theorem rp_row {pg : List Pl} {i : Nat} (h : pg.length = 12) (hi : i < 12) : ((pg.map thV ++ pg.flatMap plV).drop (12 + i * 2)).take 2 = plV (plAt pg i) := by
  rw [← List.drop_drop, List.drop_left' (by simpa using h)]
  have := pg_row (pg := pg) (sp := []) (n := i) (by omega)
  rwa [List.append_nil] at this
theorem setR_back : ∀ (vs a b : List Value) (off : Nat), setR (a ++ b) (a.length + off) vs = a ++ setR b off vs
  | [], a, b, off => rfl
  | v :: vs, a, b, off => by
    rw [setR, setR, List.set_append_right _ _ (by omega), show a.length + off - a.length = off by omega, show a.length + off + 1 = a.length + (off + 1) by omega, setR_back vs]
theorem rg_set {pg : List Pl} {i : Nat} {p : Pl} (h : pg.length = 12) (hi : i < 12) (hp : okPl p = true) : setR ((pg.map thV ++ pg.flatMap plV).set (i * 1) (.bool true)) (12 + i * 2) (plV p) = (pg.set i p).map thV ++ (pg.set i p).flatMap plV := by
  have ht : thV p = .bool true := by
    have := okPl_iff.1 hp
    simp only [thV, Value.bool.injEq, decide_eq_true_eq]
    intro e; rw [e] at this; simp at this
  rw [Nat.mul_one, List.set_append_left _ _ (by simp; omega), ← ht, ← List.map_set]
  have e := setR_back (plV p) ((pg.set i p).map thV) (pg.flatMap plV) (i * 2)
  rw [show ((pg.set i p).map thV).length = 12 by simp [h]] at e
  rw [e]
  have := pg_set (pg := pg) (sp := []) (n := i) (p := p) (by omega)
  rw [List.append_nil, List.append_nil] at this
  rw [this]
theorem rgIs_spec (W0 : World) (R : List HP) (n : Int) : Spec Tryz.prog W0 216 [.int .i64 n] R (fun v B => v = .bool (isP n) ∧ B = R) := by
  refine spec_body Tryz.func216 Tryz.ntmps216 rfl rfl ?_
  refine x_seq (x_region (s_val rfl (v_assign rfl) (x_nil (n_then (x_seq (x_region (s_val rfl (v_move rfl) (s_val rfl (v_geq rfl rfl) (s_val rfl (v_move rfl) ?_)))))))))
  refine s_and rfl rfl rfl ?_ ?_
  · intro g1_3
    refine s_val rfl (v_move rfl) (s_yes rfl rfl (s_val rfl (v_lss rfl rfl) (s_val rfl (v_pick_t rfl rfl) (s_val rfl (v_assign rfl) (x_nil (n_then (x_ret (x_done (.inl rfl) (.cons (r_tmp rfl) .nil) ?_))))))))
    refine ⟨_, ⟨?_, rfl⟩, inferInstance⟩
    refine congrArg Value.bool ?_
    rw [Bool.eq_iff_iff]; simp only [isP, decide_eq_true_eq, Bool.false_eq_true, false_iff]; omega
  · intro g1_3
    refine s_no rfl rfl rfl rfl (s_val rfl (v_pick_f rfl rfl) (s_val rfl (v_assign rfl) (x_nil (n_then (x_ret (x_done (.inl rfl) (.cons (r_tmp rfl) .nil) ?_))))))
    refine ⟨_, ⟨?_, rfl⟩, inferInstance⟩
    refine congrArg Value.bool ?_
    rw [Bool.eq_iff_iff]; simp only [isP, decide_eq_true_eq, Bool.false_eq_true, false_iff]; omega
theorem rgSet_spec (W0 : World) (R : List HP) (b : Nat) (pg : List Pl) (h : Pgs pg) (n : Int) (p : Pl) : Spec Tryz.prog W0 97 [.pointer (some ⟨b, 0, none⟩), .int .i64 n, .agg (plV p).toArray] (pt b (rgO pg) :: R)
    (fun v B => v = .int .i64 (setE pg n p) ∧ B = pt b (rgO (setP pg n p)) :: R) := by
  have hl := h.len
  refine spec_body Tryz.func97 Tryz.ntmps97 rfl rfl ?_
  refine x_seq (x_region (s_do rfl (d_boxA rfl) ?_))
  rintro _ _ ⟨b1, rfl, rfl⟩
  refine s_val rfl (v_assign rfl) (x_nil (n_then (x_seq (x_seq (x_region (s_val rfl (v_move rfl) (s_do rfl (d_call Tryz.call216 rfl (rgIs_spec W0 _ n)) ?_)))))))
  rintro _ B_ ⟨rfl, hB_⟩
  obtain rfl := hB_.symm
  refine s_val rfl (v_not rfl) (s_val rfl (v_move rfl) ?_)
  refine s_or rfl rfl rfl ?_ ?_
  · intro g1_4
    refine s_no rfl rfl rfl rfl (s_no rfl rfl rfl rfl (s_val rfl (v_pick_t rfl rfl) (s_val rfl (v_move rfl) (s_no rfl rfl rfl rfl (s_no rfl rfl rfl rfl (s_no rfl rfl rfl rfl (s_val rfl (v_pick_t rfl rfl) (s_val rfl (v_move rfl) (s_no rfl rfl rfl rfl (s_no rfl rfl rfl rfl (s_no rfl rfl rfl rfl (s_val rfl (v_pick_t rfl rfl) (s_val rfl (v_move rfl) (s_no rfl rfl rfl rfl (s_no rfl rfl rfl rfl (s_no rfl rfl rfl rfl (s_val rfl (v_pick_t rfl rfl) (x_nil (n_then (x_ift rfl (x_seq (x_region (s_val rfl (v_assign rfl) ?_)))))))))))))))))))))))
    refine x_nil (n_then (x_ret (r_then (x_done (.inl rfl) (.cons (r_tmp rfl) .nil) ?_))))
    have he : setE pg n p = 1 := by
      unfold setE; rw [if_neg]
      intro hk
      have := okPl_iff.1 hk.2
      first
        | omega
        | (simp [hk.1] at g1_4)
    exact ⟨_, ⟨by simp [pack, he], by rw [setP, he, if_neg (by decide)]⟩, inferInstance⟩
  · intro g1_4
    refine s_val rfl (v_fieldAddr rfl Tryz.underlying238 rfl Tryz.sizeOf3 rfl (by first | exact Nat.zero_add _ | rfl)) ?_
    refine s_yes rfl rfl (s_val rfl (v_load Tryz.isAgg3 rfl (cell_own rfl)) ?_)
    refine s_yes rfl rfl (s_val rfl (v_lss rfl rfl) (s_val rfl (v_pick_f rfl rfl) (s_val rfl (v_move rfl) ?_)))
    refine s_or rfl rfl rfl ?_ ?_
    · intro g1_9
      refine s_no rfl rfl rfl rfl (s_no rfl rfl rfl rfl (s_val rfl (v_pick_t rfl rfl) (s_val rfl (v_move rfl) (s_no rfl rfl rfl rfl (s_no rfl rfl rfl rfl (s_no rfl rfl rfl rfl (s_val rfl (v_pick_t rfl rfl) (s_val rfl (v_move rfl) (s_no rfl rfl rfl rfl (s_no rfl rfl rfl rfl (s_no rfl rfl rfl rfl (s_val rfl (v_pick_t rfl rfl) (x_nil (n_then (x_ift rfl (x_seq (x_region (s_val rfl (v_assign rfl) (x_nil (n_then (x_ret (r_then (x_done (.inl rfl) (.cons (r_tmp rfl) .nil) ?_)))))))))))))))))))))))
      have he : setE pg n p = 1 := by
        unfold setE; rw [if_neg]
        intro hk
        have := okPl_iff.1 hk.2
        first
          | omega
          | (simp [hk.1] at g1_4)
      exact ⟨_, ⟨by simp [pack, he], by rw [setP, he, if_neg (by decide)]⟩, inferInstance⟩
    · intro g1_9
      refine s_val rfl (v_fieldAddr rfl Tryz.underlying238 rfl Tryz.sizeOf3 rfl (by first | exact Nat.zero_add _ | rfl)) ?_
      refine s_yes rfl rfl (s_val rfl (v_load Tryz.isAgg3 rfl (cell_own rfl)) ?_)
      refine s_yes rfl rfl (s_val rfl (v_geq rfl rfl) (s_val rfl (v_pick_f rfl rfl) (s_val rfl (v_move rfl) ?_)))
      refine s_or rfl rfl rfl ?_ ?_
      · intro g1_14
        refine s_no rfl rfl rfl rfl (s_no rfl rfl rfl rfl (s_val rfl (v_pick_t rfl rfl) (s_val rfl (v_move rfl) (s_no rfl rfl rfl rfl (s_no rfl rfl rfl rfl (s_no rfl rfl rfl rfl (s_val rfl (v_pick_t rfl rfl) (x_nil (n_then (x_ift rfl (x_seq (x_region (s_val rfl (v_assign rfl) (x_nil (n_then (x_ret (r_then (x_done (.inl rfl) (.cons (r_tmp rfl) .nil) ?_))))))))))))))))))
        have he : setE pg n p = 1 := by
          unfold setE; rw [if_neg]
          intro hk
          have := okPl_iff.1 hk.2
          first
            | omega
            | (simp [hk.1] at g1_4)
        exact ⟨_, ⟨by simp [pack, he], by rw [setP, he, if_neg (by decide)]⟩, inferInstance⟩
      · intro g1_14
        refine s_val rfl (v_fieldAddr rfl Tryz.underlying238 rfl Tryz.sizeOf3 rfl (by first | exact Nat.zero_add _ | rfl)) ?_
        refine s_yes rfl rfl (s_val rfl (v_load Tryz.isAgg3 rfl (cell_own rfl)) ?_)
        refine s_yes rfl rfl (s_val rfl (v_lss rfl rfl) (s_val rfl (v_pick_f rfl rfl) (s_val rfl (v_move rfl) ?_)))
        refine s_or rfl rfl rfl ?_ ?_
        · intro g1_19
          refine s_no rfl rfl rfl rfl (s_no rfl rfl rfl rfl (s_val rfl (v_pick_t rfl rfl) (x_nil (n_then (x_ift rfl (x_seq (x_region (s_val rfl (v_assign rfl) (x_nil (n_then (x_ret (r_then (x_done (.inl rfl) (.cons (r_tmp rfl) .nil) ?_)))))))))))))
          have he : setE pg n p = 1 := by
            unfold setE; rw [if_neg]
            intro hk
            have := okPl_iff.1 hk.2
            first
              | omega
              | (simp [hk.1] at g1_4)
          exact ⟨_, ⟨by simp [pack, he], by rw [setP, he, if_neg (by decide)]⟩, inferInstance⟩
        · intro g1_19
          refine s_val rfl (v_fieldAddr rfl Tryz.underlying238 rfl Tryz.sizeOf3 rfl (by first | exact Nat.zero_add _ | rfl)) ?_
          refine s_yes rfl rfl (s_val rfl (v_load Tryz.isAgg3 rfl (cell_own rfl)) ?_)
          refine s_yes rfl rfl (s_val rfl (v_gtr rfl rfl) (s_val rfl (v_pick_f rfl rfl) (x_nil (n_then ?_))))
          refine x_if rfl ?_ ?_
          · intro c1
            refine x_seq (x_region (s_val rfl (v_assign rfl) (x_nil (n_then (x_ret (r_then (x_done (.inl rfl) (.cons (r_tmp rfl) .nil) ?_)))))))
            have he : setE pg n p = 1 := by
              unfold setE; rw [if_neg]
              intro hk
              have := okPl_iff.1 hk.2
              first
                | omega
                | (simp [hk.1] at g1_4)
            exact ⟨_, ⟨by simp [pack, he], by rw [setP, he, if_neg (by decide)]⟩, inferInstance⟩
          · intro c1
            have hp : isP n = true := by simpa using g1_4
            have ho : okPl p = true := okPl_iff.2 (by omega)
            obtain ⟨i, hni, hi⟩ := isP_nat hp
            have htr := th_row (pg := pg) (sp := pg.flatMap plV) (i := i) (by omega)
            have hth : thereB pg n = decide (plAt pg i ≠ (0, 0)) := by rw [thereB, hp]; simp [hni]
            refine x_skip (n_then (x_seq (x_seq (x_region (s_val rfl (v_move rfl) (s_val rfl (v_move rfl) (s_val rfl (v_nilCheck rfl) ?_)))))))
            refine s_val rfl (v_fieldAddr rfl Tryz.underlying241 rfl Tryz.sizeOf236 rfl (by first | exact Nat.zero_add _ | rfl)) ?_
            refine s_val rfl (v_idxArr Tryz.underlying236 Tryz.sizeOf4 rfl rfl hni hi (by first | exact Nat.zero_add _ | rfl)) ?_
            refine s_val rfl (v_load Tryz.isAgg4 rfl (cells_part (vs := [thV (plAt pg i)]) htr rfl 0 _ rfl)) ?_
            refine x_nil (n_then ?_)
            refine x_if rfl ?_ ?_
            · intro c3
              have ht : thereB pg n = true := by rw [hth]; simpa using c3
              refine x_seq (x_region (s_val rfl (v_assign rfl) (x_nil (n_then (x_ret (r_then (x_done (.inl rfl) (.cons (r_tmp rfl) .nil) ?_)))))))
              have he : setE pg n p = 5 := by unfold setE; rw [if_pos ⟨hp, ho⟩, if_pos ht]
              exact ⟨_, ⟨by simp [pack, he], by rw [setP, he, if_neg (by decide)]⟩, inferInstance⟩
            · intro c3
              have ht : thereB pg n = false := by rw [hth]; simpa using c3
              have he : setE pg n p = 0 := by simp [setE, hp, ho, ht]
              refine x_skip (n_then (x_seq (x_region (s_val rfl (v_move rfl) (s_val rfl (v_move rfl) (s_val rfl (v_nilCheck rfl) ?_))))))
              refine s_val rfl (v_fieldAddr rfl Tryz.underlying241 rfl Tryz.sizeOf236 rfl (by first | exact Nat.zero_add _ | rfl)) ?_
              refine s_val rfl (v_idxArr Tryz.underlying236 Tryz.sizeOf4 rfl rfl hni hi (by first | exact Nat.zero_add _ | rfl)) ?_
              refine s_do0 (d_store Tryz.sizeOf4 rfl rfl rfl (by rw [List.length_append, List.length_map, flat_len plV_len]; omega) rfl) ?_
              rintro _ _ rfl
              refine x_nil (n_then (x_seq ?_))
              refine x_draw [(b1, 0, _)] 7 mixed rfl (sc_own sc_end) (fun hS => ?_)
              refine d_take 0 rfl rfl (by kernel_rfl) (by kernel_rfl) (by kernel_rfl) rfl hS (v_move rfl) ?_
              refine d_take 1 rfl rfl (by kernel_rfl) (by kernel_rfl) (by kernel_rfl) rfl hS (v_move rfl) ?_
              refine d_take 2 rfl rfl (by kernel_rfl) (by kernel_rfl) (by kernel_rfl) rfl hS (v_loadAgg Tryz.isAgg238 Tryz.sizeOf238 rfl (cells_sc (k := 0) rfl) rfl) ?_
              refine d_take 3 rfl rfl (by kernel_rfl) (by kernel_rfl) (by kernel_rfl) rfl hS (v_nilCheck rfl) ?_
              refine d_take 4 rfl rfl (by kernel_rfl) (by kernel_rfl) (by kernel_rfl) rfl hS (v_fieldAddr rfl Tryz.underlying241 rfl Tryz.sizeOf239 rfl (by first | exact Nat.zero_add _ | rfl)) ?_
              refine d_take 5 rfl rfl (by kernel_rfl) (by kernel_rfl) (by kernel_rfl) rfl hS (v_idxArr Tryz.underlying239 Tryz.sizeOf238 rfl rfl hni hi (by first | exact Nat.zero_add _ | rfl)) ?_
              refine d_one 6 (by kernel_rfl) rfl rfl (d_storeAgg Tryz.sizeOf238 rfl rfl rfl rfl (by rw [List.length_set, List.length_append, List.length_map, flat_len plV_len]; omega) (rg_set hl hi ho)) rfl ?_; clear hS
              rintro _ _ rfl
              refine ⟨(sc_own sc_end), fun hS => ?_⟩
              refine d_done (by kernel_rfl) ?_; clear hS
              refine n_then (x_seq (x_region (s_val rfl (v_assign rfl) (x_nil (n_then (x_ret (x_done (.inl rfl) (.cons (r_tmp rfl) .nil) ?_)))))))
              rw [show setP pg n p = pg.set i p by rw [setP, if_pos he, hni, Int.toNat_natCast]]
              exact ⟨_, ⟨by simp [pack, he], rfl⟩, inferInstance⟩
theorem rgGet_spec (W0 : World) (R : List HP) (b : Nat) (pg : List Pl) (h : Pgs pg) (n : Int) : Spec Tryz.prog W0 306 [.pointer (some ⟨b, 0, none⟩), .int .i64 n] (pt b (rgO pg) :: R)
    (fun v B => v = .tuple #[.agg (plV (gGot pg n)).toArray, .bool (thereB pg n)] ∧ B = pt b (rgO pg) :: R) := by
  have hl := h.len
  refine spec_body Tryz.func306 Tryz.ntmps306 rfl rfl ?_
  refine x_seq (x_region (s_do rfl (d_allocA Tryz.zeroValue238) ?_))
  rintro _ _ ⟨b1, rfl, rfl⟩
  refine s_val rfl (v_assign rfl) (x_nil (n_then (x_seq (x_seq (x_region (s_val rfl (v_move rfl) (s_do rfl (d_call Tryz.call216 rfl (rgIs_spec W0 _ n)) ?_)))))))
  rintro _ B_ ⟨rfl, hB_⟩
  obtain rfl := hB_.symm
  refine s_val rfl (v_not rfl) (x_nil (n_then ?_))
  refine x_if rfl ?_ ?_
  · intro c1
    refine x_seq (x_region (s_val rfl (v_build Tryz.underlying238 Tryz.zeroValue238 (sized_cons Tryz.sizeOf3 (sized_cons Tryz.sizeOf3 sized_nil)) fil_nil) ?_))
    refine s_do0 (d_storeAll Tryz.sizeOf238 rfl rfl rfl rfl rfl) ?_
    rintro _ _ rfl
    refine s_val rfl (v_assign rfl) (x_nil (n_then (x_ret (r_then (x_done (.inl rfl) (.cons (r_all Tryz.isAgg238 Tryz.sizeOf238 rfl rfl) (.cons (r_tmp rfl) .nil)) ?_)))))
    refine ⟨_, ⟨?_, rfl⟩, inferInstance⟩
    have ht : thereB pg n = false := by simp [thereB, show isP n = false by simpa using c1]
    simp [pack, gGot, ht]
  · intro c1
    have hp : isP n = true := by simpa using c1
    obtain ⟨i, hni, hi⟩ := isP_nat hp
    have htr := th_row (pg := pg) (sp := pg.flatMap plV) (i := i) (by omega)
    have hpr := rp_row (pg := pg) hl hi
    refine x_skip (n_then (x_seq ?_))
    refine x_draw [(b, 12 + i * 2, plV (plAt pg i)), (b, i * 1, [thV (plAt pg i)])] 14 mixed rfl (sc_cons (cells_part hpr rfl) (sc_cons (cells_part htr rfl) sc_end)) (fun hS => ?_)
    refine d_take 0 rfl rfl (by kernel_rfl) (by kernel_rfl) (by kernel_rfl) rfl hS (v_move rfl) ?_
    refine d_take 1 rfl rfl (by kernel_rfl) (by kernel_rfl) (by kernel_rfl) rfl hS (v_move rfl) ?_
    refine d_take 2 rfl rfl (by kernel_rfl) (by kernel_rfl) (by kernel_rfl) rfl hS (v_nilCheck rfl) ?_
    refine d_take 3 rfl rfl (by kernel_rfl) (by kernel_rfl) (by kernel_rfl) rfl hS (v_fieldAddr rfl Tryz.underlying241 rfl Tryz.sizeOf239 rfl (by first | exact Nat.zero_add _ | rfl)) ?_
    refine d_take 4 rfl rfl (by kernel_rfl) (by kernel_rfl) (by kernel_rfl) rfl hS (v_idxArr Tryz.underlying239 Tryz.sizeOf238 rfl rfl hni hi (by first | exact Nat.zero_add _ | rfl)) ?_
    refine d_take 5 rfl rfl (by kernel_rfl) (by kernel_rfl) (by kernel_rfl) rfl hS (v_loadAgg Tryz.isAgg238 Tryz.sizeOf238 rfl (cells_sc (k := 0) rfl) rfl) ?_
    refine d_take 6 rfl rfl (by kernel_rfl) (by kernel_rfl) (by kernel_rfl) rfl hS (v_move rfl) ?_
    refine d_take 7 rfl rfl (by kernel_rfl) (by kernel_rfl) (by kernel_rfl) rfl hS (v_move rfl) ?_
    refine d_take 8 rfl rfl (by kernel_rfl) (by kernel_rfl) (by kernel_rfl) rfl hS (v_nilCheck rfl) ?_
    refine d_take 9 rfl rfl (by kernel_rfl) (by kernel_rfl) (by kernel_rfl) rfl hS (v_fieldAddr rfl Tryz.underlying241 rfl Tryz.sizeOf236 rfl (by first | exact Nat.zero_add _ | rfl)) ?_
    refine d_take 10 rfl rfl (by kernel_rfl) (by kernel_rfl) (by kernel_rfl) rfl hS (v_idxArr Tryz.underlying236 Tryz.sizeOf4 rfl rfl hni hi (by first | exact Nat.zero_add _ | rfl)) ?_
    refine d_take 11 rfl rfl (by kernel_rfl) (by kernel_rfl) (by kernel_rfl) rfl hS (v_load Tryz.isAgg4 rfl (cell_sc1 (k := 1) rfl)) ?_
    refine d_one 12 (by kernel_rfl) rfl rfl (d_storeAll Tryz.sizeOf238 rfl rfl rfl rfl rfl) rfl ?_; clear hS
    rintro _ _ rfl
    refine ⟨(sc_cons (cells_part hpr rfl) (sc_cons (cells_part htr rfl) sc_end)), fun hS => ?_⟩
    refine d_take 13 rfl rfl (by kernel_rfl) (by kernel_rfl) (by kernel_rfl) rfl hS (v_assign rfl) ?_
    refine d_done (by kernel_rfl) ?_; clear hS
    refine n_then (x_ret (x_done (.inl rfl) (.cons (r_all Tryz.isAgg238 Tryz.sizeOf238 rfl rfl) (.cons (r_tmp rfl) .nil)) ?_))
    refine ⟨_, ⟨?_, rfl⟩, inferInstance⟩
    subst hni
    by_cases hz : plAt pg i = (0, 0)
    · have ht : thereB pg i = false := by simp [thereB, hz]
      simp [pack, gGot, ht, hz, thV]
    · have ht : thereB pg i = true := by simp [thereB, hz, hp]
      simp [pack, gGot, ht, hz, thV]
end Go.Proofs.YtnidndllknffgaaGreat
namespace Go.Proofs.YtnidndllknffgaaGreat
open Go.RowKit
set_option linter.unusedSimpArgs false
set_option linter.unusedVariables false
set_option maxRecDepth 20000
def wrV (d : Nat) : List Value := (List.range 12).map (fun i => .bool (Nat.testBit d i))
abbrev rvO (qs qm d : Nat) : Obj := cob (.pointer (some ⟨qs, 0, none⟩) :: .pointer (some ⟨qm, 0, none⟩) :: wrV d) 243
end Go.Proofs.YtnidndllknffgaaGreat
namespace Go.Proofs.YtnidndllknffgaaGreat
open Go.RowKit
set_option linter.unusedSimpArgs false
set_option linter.unusedVariables false
set_option maxRecDepth 20000
end Go.Proofs.YtnidndllknffgaaGreat
namespace Go.Proofs.YtnidndllknffgaaGreat
open Go.RowKit
set_option linter.unusedSimpArgs false
set_option linter.unusedVariables false
set_option maxRecDepth 20000
end Go.Proofs.YtnidndllknffgaaGreat
namespace Go.Proofs.YtnidndllknffgaaGreat
open Go.RowKit
set_option linter.unusedSimpArgs false
set_option linter.unusedVariables false
set_option maxRecDepth 20000
end Go.Proofs.YtnidndllknffgaaGreat
namespace Go.Proofs.YtnidndllknffgaaGreat
open Go.RowKit
set_option linter.unusedSimpArgs false
set_option linter.unusedVariables false
set_option maxRecDepth 20000
end Go.Proofs.YtnidndllknffgaaGreat
namespace Go.Proofs.YtnidndllknffgaaGreat
open Go.RowKit
set_option linter.unusedSimpArgs false
set_option linter.unusedVariables false
set_option maxRecDepth 20000
end Go.Proofs.YtnidndllknffgaaGreat
namespace Go.Proofs.YtnidndllknffgaaGreat
open Go.RowKit
set_option linter.unusedSimpArgs false
set_option linter.unusedVariables false
set_option maxRecDepth 20000
end Go.Proofs.YtnidndllknffgaaGreat
namespace Go.Proofs.YtnidndllknffgaaGreat
open Go.RowKit
set_option linter.unusedSimpArgs false
set_option linter.unusedVariables false
set_option maxRecDepth 20000
end Go.Proofs.YtnidndllknffgaaGreat
namespace Go.Proofs.YtnidndllknffgaaGreat
open Go.RowKit
set_option linter.unusedSimpArgs false
set_option linter.unusedVariables false
set_option maxRecDepth 20000
structure QS where
  r : Rg3
  on : Bool
  br : Int
  last : Nat
  put : Nat
@[reducible] def qs0 : QS := ⟨⟨0, 0, 0, 0⟩, false, 0, 0, 0⟩
abbrev qO (m : Bool) (s : QS) : Obj := cob [.int .u32 s.r.desc, .int .u32 s.r.avail, .int .u32 s.r.used, .int .i64 s.r.n, .bool s.on, .int .i64 s.br, .int .i64 s.last, .int .i64 s.put, .bool m] 470
theorem qNew_spec (W0 : World) (R : List HP) : Spec Tryz.prog W0 213 [] R (fun v B => ∃ b, v = .pointer (some ⟨b, 0, none⟩) ∧ B = pt b (qO true qs0) :: R) := by
  refine spec_body Tryz.func213 Tryz.ntmps213 rfl rfl ?_
  refine x_seq (x_region (s_val rfl (v_assign rfl) (x_nil (n_then (x_seq (x_region (s_val rfl (v_build Tryz.underlying470 Tryz.zeroValue470 (sized_cons Tryz.sizeOf227 (sized_cons Tryz.sizeOf4 sized_nil)) (fil_scal rfl Tryz.sizeOf4 rfl rfl (Nat.le_of_ble_eq_true rfl) SetL.eq fil_nil)) ?_)))))))
  refine s_do rfl (d_boxA rfl) ?_
  rintro _ _ ⟨b1, rfl, rfl⟩
  refine s_val rfl (v_assign rfl) (x_nil (n_then (x_ret (x_done (.inl rfl) (.cons (r_tmp rfl) .nil) ?_))))
  exact ⟨_, ⟨_, rfl, rfl⟩, inferInstance⟩
end Go.Proofs.YtnidndllknffgaaGreat
namespace Go.Proofs.YtnidndllknffgaaGreat
open Go.RowKit
set_option linter.unusedSimpArgs false
set_option linter.unusedVariables false
set_option maxRecDepth 20000
end Go.Proofs.YtnidndllknffgaaGreat
namespace Go.Proofs.YtnidndllknffgaaGreat
open Go.RowKit
set_option linter.unusedSimpArgs false
set_option linter.unusedVariables false
set_option maxRecDepth 20000
end Go.Proofs.YtnidndllknffgaaGreat
namespace Go.Proofs.YtnidndllknffgaaGreat
open Go.RowKit
set_option linter.unusedSimpArgs false
set_option linter.unusedVariables false
set_option maxRecDepth 20000
end Go.Proofs.YtnidndllknffgaaGreat
namespace Go.Proofs.YtnidndllknffgaaGreat
open Go.RowKit
set_option linter.unusedSimpArgs false
set_option linter.unusedVariables false
set_option maxRecDepth 20000
end Go.Proofs.YtnidndllknffgaaGreat
namespace Go.Proofs.YtnidndllknffgaaGreat
open Go.RowKit
set_option linter.unusedSimpArgs false
set_option linter.unusedVariables false
set_option maxRecDepth 20000
end Go.Proofs.YtnidndllknffgaaGreat
namespace Go.Proofs.YtnidndllknffgaaGreat
open Go.RowKit
set_option linter.unusedSimpArgs false
set_option linter.unusedVariables false
set_option maxRecDepth 20000
end Go.Proofs.YtnidndllknffgaaGreat
namespace Go.Proofs.YtnidndllknffgaaGreat
open Go.RowKit
set_option linter.unusedSimpArgs false
set_option linter.unusedVariables false
set_option maxRecDepth 20000
end Go.Proofs.YtnidndllknffgaaGreat
namespace Go.Proofs.YtnidndllknffgaaGreat
open Go.RowKit
set_option linter.unusedSimpArgs false
set_option linter.unusedVariables false
set_option maxRecDepth 20000
end Go.Proofs.YtnidndllknffgaaGreat
namespace Go.Proofs.YtnidndllknffgaaGreat
open Go.RowKit
set_option linter.unusedSimpArgs false
set_option linter.unusedVariables false
set_option maxRecDepth 20000
section
variable {P : Program} {S : World → Prop} {W0 : World} {N : FSz} {e : Env} {A R : List HP} {t t' : TypeId} {x : Operand} {v : Value} {b : Nat} {vs : List Value}
end
end Go.Proofs.YtnidndllknffgaaGreat
namespace Go.Proofs.YtnidndllknffgaaGreat
open Go.RowKit
set_option linter.unusedSimpArgs false
set_option linter.unusedVariables false
set_option maxRecDepth 20000
def z16 : List Nat := List.replicate 16 0
structure Dk where
  rs : List Rn
  lb : List Int
  ss : List (List Nat)
def secD (ss : List (List Nat)) (i : Nat) : List Nat := ss.getD i z16
def dkF (ss : List (List Nat)) : Int → Option Value := fun k => if 0 ≤ k ∧ k < 32 then (if secD ss k.toNat = z16 then none else some (.agg (byV (secD ss k.toNat)).toArray)) else none
@[reducible] def dkO (bt bm : Nat) (aL : Option Addr) (n cL : Nat) : Obj := cob [.pointer (some ⟨bt, 0, none⟩), .slice aL n cL, .map (some bm)] 425
def dkH (d : Nat) (x : Dk) : HP := chk (fun C => ∃ bt bm aL cL, C = [pt d (dkO bt bm aL x.lb.length cL), tabH bt (x.rs, 32), osl 3 1 (.slice aL x.lb.length cL) (x.lb.flatMap inI), mapH bm (dkF x.ss)])
section
variable {W0 : World} {N : FSz} {K : Act → World → Prop} {e : Env} {A B R R1 R2 R3 R4 : List HP} {d : Nat} {x : Dk}
theorem ent_dk {bt bm n cL : Nat} {aL : Option Addr} {rs : List Rn} {ys : List Value} {f : Int → Option Value} [h1 : Tk pt d A (dkO bt bm aL n cL) R1] [h2 : Tk tabH bt R1 (rs, 32) R2] [h3 : Tk (osl 3 1) (.slice aL n cL) R2 ys R3] [h4 : Tk mapH bm R3 f R4]
    (e1 : rs = x.rs) (e2 : ys = x.lb.flatMap inI) (e3 : f = dkF x.ss) (e4 : n = x.lb.length) [k : Ent R4 B] : Ent A (dkH d x :: B) := by
  subst e1; subst e2; subst e3; subst e4
  have e : A.Perm ([pt d (dkO bt bm aL x.lb.length cL), tabH bt (x.rs, 32), osl 3 1 (.slice aL x.lb.length cL) (x.lb.flatMap inI), mapH bm (dkF x.ss)] ++ R4) := h1.perm.trans ((h2.perm.trans ((h3.perm.trans (h4.perm.cons _)).cons _)).cons _)
  exact (Ent.ofPerm e).trans ((ent_chk (R := R4) ⟨bt, bm, aL, cL, rfl⟩).trans (Ent.cons k))
end
end Go.Proofs.YtnidndllknffgaaGreat
namespace Go.Proofs.YtnidndllknffgaaGreat
open Go.RowKit
set_option linter.unusedSimpArgs false
set_option linter.unusedVariables false
set_option maxRecDepth 20000
section
variable {P : Program} {S : World → Prop} {W0 : World} {N : FSz} {e : Env} {A R : List HP} {ty t t' : TypeId} {x y : Operand} {b off : Nat} {l l' vs : List Value}
theorem d_copyS {E sz dn dc sn sc m : Nat} {ay : Option Addr} (hu : P.underlying t = some (.slice E)) (hs : ∀ w, (sizeOf E).run P w = .ok sz w) (hx : ev e x = some (.slice (some ⟨b, off, none⟩) dn dc)) (hy : ev e y = some (.slice ay sn sc))
    [h : Tk pt b A (cob l ty) R] (hm : Nat.min sn dn = m) (hsrc : m = 0 ∨ ∃ bx ox, ay = some ⟨bx, ox, none⟩ ∧ Cells (OwnP W0 A) bx ox vs) (hl : vs.length = m * sz) (h1 : allOne vs = true) (ho : off + m * sz ≤ l.length) (hr : setR l off vs = l') :
    Does P W0 N e A (.call { callee := .builtin .copy, args := #[x, y], argTypes := #[t, t'] }) (fun v B => v = .int .i64 m ∧ B = pt b (cob l' ty) :: R) := by
  rcases hsrc with rfl | ⟨bx, ox, rfl, hc⟩
  · have h0 : vs = [] := List.eq_nil_of_length_eq_zero (by simpa using hl)
    subst h0
    have hr' : l = l' := hr
    subst hr'
    intro a w dst ty' pos af g K Q hF hO k
    have hO' := hO.tk (r := pt) (b := b)
    have hexec : (execOp a.eval { dst := dst, op := .call { callee := .builtin .copy, args := #[x, y], argTypes := #[t, t'] }, type := ty', pos := pos, after := af, guard := g }).run P w = .ok (.value (.int .i64 0)) w := by
      have hs' : (sizeOf E).run P w = .ok sz w := hs w
      cases ay <;>
      simp only [execOp, resolve, invoke, builtin, Sem.run_bind, Sem.run_pure, Result.andThen_ok, List.map_toArray, List.map_cons, List.map_nil, hF.eval hx, hF.eval hy, Builtin.copy_, Builtin.lenOf, Builtin.firstCells, run_und hu, hm, Array.getElem?_eq_getElem, List.getElem?_toArray, List.getElem?_cons_zero, List.getElem?_cons_succ, hs', loadCells, loadCellsFrom, Nat.zero_mul, storeCells, goInt] <;> rfl
    unfold Oper.wp
    rw [hexec]
    exact k _ w _ ⟨rfl, rfl⟩ hO'
  · exact d_copy hu hs hx hy hm hc hl h1 ho hr
end
end Go.Proofs.YtnidndllknffgaaGreat
namespace Go.Proofs.YtnidndllknffgaaGreat
open Go.RowKit
set_option linter.unusedSimpArgs false
set_option linter.unusedVariables false
set_option maxRecDepth 20000
@[reducible] def wV1 (x : Nat) : List Value := [wV x]
theorem wV1_len (x : Nat) : (wV1 x).length = 1 := rfl
theorem wV1_flat (l : List Nat) : l.flatMap wV1 = l.map wV := flat1_len wV l
def cutW (ws : List Nat) (p : Nat) : List Nat := ws.take (16 * p)
theorem cutW_len (ws : List Nat) (p : Nat) : (cutW ws p).length = min (16 * p) ws.length := by rw [cutW, List.length_take]
theorem iteMin (a b : Nat) : (if (b : Int) < (a : Int) then (b : Int) else (a : Int)) = ((min a b : Nat) : Int) := by
  split <;> omega
theorem iteMin8 {p : Nat} (h : p ≤ 8) : (if (8 : Int) < (p : Int) then (8 : Int) else (p : Int)) = (p : Int) := by rw [if_neg (by omega)]
theorem iteMax0 (a : Nat) : (if (a : Int) > (0 : Int) then (a : Int) else (0 : Int)) = (a : Int) := by
  split <;> omega
theorem igCut_spec (W0 : World) (R : List HP) (a : Option Addr) (c p : Nat) (ws : List Nat) (hs : SlA (OwnP W0 R) a 1 wV1 ws) (hp : p ≤ 8) (hn : ws.length < 9223372036854775808) :
    Spec Tryz.prog W0 87 [.slice a ws.length c, .int .i64 p] R (fun v B => ∃ g, v = .slice (some ⟨g, 0, none⟩) (cutW ws p).length (cutW ws p).length ∧ B = pt g (cob ((cutW ws p).map wV) 42) :: R) := by
  have hl := cutW_len ws p
  have hsrc := (hs.take (16 * p)).src wV1_len (fun _ => trivial)
  rw [wV1_flat] at hsrc
  refine spec_body Tryz.func87 Tryz.ntmps87 rfl rfl ?_
  refine x_seq (x_region (s_val rfl (v_assign rfl) (x_nil (n_then (x_seq (x_region (s_val rfl (v_move rfl) (s_val rfl (v_min rfl rfl (iteMin8 hp)) ?_))))))))
  refine s_val rfl (v_max rfl rfl (iteMax0 p)) ?_
  refine s_val rfl (v_mul rfl rfl (by rw [w64 (by omega)]; omega : IntKind.wrap .i64 ((p : Int) * 16) = ((16 * p : Nat) : Int))) ?_
  refine s_val rfl (v_assign rfl) (x_nil (n_then ?_))
  refine x_cut (fun m : Nat => m = (cutW ws p).length) (fun m => [(0, .slice a ws.length c), (5, .int .i64 m)]) (fun _ => R) ?_ ?_
  · skip
    refine x_seq (x_region (s_val rfl (v_move rfl) (s_val rfl (v_move rfl) (s_val rfl (v_len_slice Tryz.underlying98 rfl) (s_val rfl (v_geq rfl rfl) (x_nil (n_then ?_)))))))
    refine x_if rfl ?_ ?_
    · intro c2
      refine x_region (s_val rfl (v_move rfl) (s_val rfl (v_len_slice Tryz.underlying98 rfl) (s_val rfl (v_assign rfl) (x_nil (n_then ?_)))))
      refine mid_intro ws.length ?_ ?_ ?_
      · omega
      · repeat (first | exact sub_nil | refine sub_cons rfl ?_)
      · exact inferInstance
    · intro c2
      refine x_skip (n_then ?_)
      refine mid_intro (16 * p) ?_ ?_ ?_
      · omega
      · repeat (first | exact sub_nil | refine sub_cons rfl ?_)
      · exact inferInstance
  · intro m hm
    refine x_seq (x_region (s_val rfl (v_move rfl) ?_))
    refine s_do rfl (d_make (sz := 1) (by_ := 4) (info := Tryz.t42) Tryz.underlying98 (by kernel_rfl) rfl rfl rfl rfl (by decide) rfl rfl rfl rfl (by omega) (by decide)) ?_
    rintro _ _ ⟨g, rfl, rfl⟩
    refine s_val rfl (v_assign rfl) (x_nil (n_then (x_seq (x_region (s_val rfl (v_move rfl) (s_val rfl (v_move rfl) ?_))))))
    refine s_do rfl (d_copyS Tryz.underlying98 Tryz.sizeOf42 rfl rfl (m := m) (vs := (cutW ws p).map wV) (Nat.min_eq_right (by omega)) (by
rcases hsrc with h | ⟨b, o, h1, h2⟩
· left; rw [hm, cutW, h]; rfl
· right; exact ⟨b, o, h1, h2.weak⟩) (by rw [List.length_map, hm]; omega) (by simp [allOne, wV, Value.oneCell']) (by rw [List.length_replicate]; omega) (by have := setR_all ((cutW ws p).map wV) (List.replicate (m * 1) (.int .u32 0)) [] (by rw [List.length_map, List.length_replicate, hm]; omega); simpa using this)) ?_
    rintro _ B_ ⟨rfl, hB_⟩
    obtain rfl := hB_.symm
    refine x_nil (n_then (x_seq (x_region (s_val rfl (v_move rfl) (s_val rfl (v_assign rfl) (x_nil (n_then (x_ret (x_done (.inl rfl) (.cons (r_tmp rfl) .nil) ?_)))))))))
    subst hm
    exact ⟨_, ⟨g, rfl, rfl⟩, inferInstance⟩
def pgF (n i : Nat) : Nat := min n (i * 16)
theorem pgW_len (ws : List Nat) (i : Nat) : (pgW ws i).length = min ws.length (pgF ws.length i + 16) - pgF ws.length i := by
  rw [pgW, List.length_take, List.length_drop, pgF]; omega
theorem imPage_spec (W0 : World) (R : List HP) (a : Option Addr) (c n i : Nat) (ws : List Nat) (hn : ws.length = n) (hc : n ≤ c) (hi : i < 8) (h63 : n ≤ 1000) :
    Spec Tryz.prog W0 203 [.slice a n c, .int .i64 i] R (fun v B => v = .slice (sliA a c (pgF n i) 1) (pgW ws i).length (c - pgF n i) ∧ B = R) := by
  have hl := pgW_len ws i
  rw [hn] at hl
  have hF : pgF n i = min n (i * 16) := rfl
  refine spec_body Tryz.func203 Tryz.ntmps203 rfl rfl ?_
  refine x_seq (x_region (s_val rfl (v_assign rfl) (x_nil (n_then (x_seq (x_region (s_val rfl (v_move rfl) (s_val rfl (v_len_slice Tryz.underlying98 rfl) (s_val rfl (v_move rfl) ?_)))))))))
  refine s_val rfl (v_mul rfl rfl (by rw [w64 (by omega)]; omega : IntKind.wrap .i64 ((i : Int) * 16) = ((i * 16 : Nat) : Int))) ?_
  refine s_val rfl (v_min rfl rfl (iteMin n (i * 16))) ?_
  refine s_val rfl (v_assign rfl) (x_nil (n_then (x_seq (x_region (s_val rfl (v_move rfl) (s_val rfl (v_move rfl) (s_val rfl (v_move rfl) (s_val rfl (v_len_slice Tryz.underlying98 rfl) (s_val rfl (v_move rfl) ?_)))))))))
  refine s_val rfl (v_add rfl rfl (by rw [w64 (by omega)]; omega : IntKind.wrap .i64 (((pgF n i : Nat) : Int) + 16) = ((pgF n i + 16 : Nat) : Int))) ?_
  refine s_val rfl (v_min rfl rfl (iteMin n (pgF n i + 16))) ?_
  refine s_val rfl (v_sliceLHg Tryz.underlying98 Tryz.sizeOf42 rfl rfl rfl rfl rfl (by omega) (by omega)) ?_
  refine s_val rfl (v_assign rfl) (x_nil (n_then (x_ret (x_done (.inl rfl) (.cons (r_tmp rfl) .nil) ?_))))
  rw [hl]
  exact ⟨_, ⟨rfl, rfl⟩, inferInstance⟩
theorem page_sla {S : World → Prop} {a : Option Addr} {c i : Nat} {ws : List Nat} (h : SlA S a 1 wV1 ws) (hc : ws.length ≤ c) : SlA S (sliA a c (pgF ws.length i) 1) 1 wV1 (pgW ws i) := by
  have hk : pgF ws.length i + (pgW ws i).length ≤ ws.length := by
    rw [pgW_len]; have : pgF ws.length i = min ws.length (i * 16) := rfl; omega
  have := h.sub hk hc
  have e : (ws.drop (pgF ws.length i)).take (pgW ws i).length = pgW ws i := by
    have hF : pgF ws.length i = min ws.length (i * 16) := rfl
    rcases Nat.lt_or_ge ws.length (i * 16) with q | q
    · have h0 : pgW ws i = [] := by
        rw [pgW, List.drop_of_length_le (by omega)]; rfl
      rw [h0]; rfl
    · rw [show pgF ws.length i = 16 * i by omega, pgW, List.length_take]
      rcases Nat.le_total 16 (ws.drop (16 * i)).length with z | z
      · rw [Nat.min_eq_left z]
      · rw [Nat.min_eq_right z, List.take_of_length_le (Nat.le_refl _), List.take_of_length_le z]
  rwa [e] at this
theorem poOwnNo_spec (W0 : World) (R : List HP) (pb ps : Nat) (po : Po) (h0 : 0 < po.length) :
    Spec Tryz.prog W0 123 [.pointer (some ⟨pb, 0, none⟩), .int .i64 (-1), .int .i64 0] (poH pb (ps, po) :: R) (fun v B => v = .int .i64 1 ∧ B = poH pb (ps, po) :: R) := by
  have hi : isF po.length (-1) = false := by simp [isF]
  refine spec_body Tryz.func123 Tryz.ntmps123 rfl rfl ?_
  refine x_seq (x_region (s_val rfl (v_assign rfl) (x_nil (n_then (x_seq (x_block (x_seq (x_region (s_val rfl (v_move rfl) (s_do rfl (d_call1 Tryz.call257 rfl (poNone_spec W0 _ pb ps po h0)) ?_))))))))))
  rintro _ B_ ⟨rfl, hB_⟩
  obtain rfl := hB_.symm
  refine s_val rfl (v_assign rfl) (x_nil (n_then ?_))
  refine x_if rfl ?_ ?_
  · intro c1
    exact absurd c1 (by decide)
  · intro c1
    refine x_seq (x_seq (x_region (s_val rfl (v_move rfl) (s_val rfl (v_move rfl) (s_do rfl (d_call1 Tryz.call258 rfl (poIs_spec W0 _ pb ps po (-1))) ?_)))))
    rintro _ B_ ⟨rfl, hB_⟩
    obtain rfl := hB_.symm
    refine s_val rfl (v_not rfl) (s_val rfl (v_assign rfl) (x_nil (n_then ?_)))
    refine x_if rfl ?_ ?_
    · intro c3
      refine x_skip (n_then (x_ift rfl (x_seq (x_region (s_val rfl (v_assign rfl) (x_nil (n_then (x_ret (r_block (r_then (x_done (.inl rfl) (.cons (r_tmp rfl) .nil) ?_)))))))))))
      exact ⟨_, ⟨rfl, rfl⟩, inferInstance⟩
    · intro c3
      exact absurd (by simp [hi]) c3
theorem gmDropN_spec (W0 : World) (R : List HP) (b : Nat) (pg : List Pl) (h : Pgs pg) : Spec Tryz.prog W0 207 [.pointer (some ⟨b, 0, none⟩), .int .i64 (-1)] (pt b (gmO pg) :: R)
    (fun v B => v = .int .i64 1 ∧ B = pt b (gmO pg) :: R) := by
  refine spec_body Tryz.func207 Tryz.ntmps207 rfl rfl ?_
  refine x_seq (x_region (s_val rfl (v_assign rfl) (x_nil (n_then (x_seq (x_block (x_seq (x_region (s_val rfl (v_move rfl) (s_do rfl (d_call1 Tryz.call277 rfl (gmNone_spec W0 _ b pg h)) ?_))))))))))
  rintro _ B_ ⟨rfl, hB_⟩
  obtain rfl := hB_.symm
  refine s_val rfl (v_assign rfl) (x_nil (n_then ?_))
  refine x_if rfl ?_ ?_
  · intro c1
    exact absurd c1 (by decide)
  · intro c1
    refine x_seq (x_region (s_val rfl (v_move rfl) (s_do rfl (d_call Tryz.call301 rfl (gmPage_spec W0 _ (-1))) ?_)))
    rintro _ B_ ⟨rfl, hB_⟩
    obtain rfl := hB_.symm
    refine s_val rfl (v_not rfl) (s_val rfl (v_assign rfl) (x_nil (n_then ?_)))
    refine x_if rfl ?_ ?_
    · intro c3
      refine x_seq (x_region (s_val rfl (v_assign rfl) (x_nil (n_then (x_ret (r_block (r_then (x_done (.inl rfl) (.cons (r_tmp rfl) .nil) ?_))))))))
      exact ⟨_, ⟨rfl, rfl⟩, inferInstance⟩
    · intro c3
      exact absurd c3 (by decide)
theorem imMade_spec (W0 : World) (R : List HP) (pb ps pm : Nat) (x : Im) (h : ImOk x) (h0 : 0 < x.fr.length) :
    Spec Tryz.prog W0 296 [.pointer (some ⟨pb, 0, none⟩), .pointer (some ⟨ps, 0, none⟩), .pointer (some ⟨pm, 0, none⟩)] (poH pb (ps, x.po) :: stoH ps x.fr :: pt pm (gmO x.pg) :: R) (fun v B => v = .bool true ∧ B = poH pb (ps, x.po) :: stoH ps x.fr :: pt pm (gmO x.pg) :: R) := by
  have hl := h.len
  refine spec_body Tryz.func296 Tryz.ntmps296 rfl rfl ?_
  refine x_seq (x_region (s_val rfl (v_assign rfl) (x_nil (n_then (x_seq (x_region (s_val rfl (v_move rfl) ?_)))))))
  refine s_do rfl (d_call1 Tryz.call123 rfl (poOwnNo_spec W0 _ pb ps x.po (by omega))) ?_
  rintro _ B_ ⟨rfl, hB_⟩
  obtain rfl := hB_.symm
  refine s_val rfl (v_neq rfl rfl) (s_val rfl (v_move rfl) ?_)
  refine s_and rfl rfl rfl ?_ ?_
  · intro g1_4
    refine s_val rfl (v_move rfl) (s_yes rfl rfl (s_do rfl (d_call1 Tryz.call86 rfl (frLen_spec W0 _ ps x.fr)) ?_))
    rintro _ B_ ⟨rfl, hB_⟩
    obtain rfl := hB_.symm
    refine s_yes rfl rfl (s_val rfl (v_gtr rfl rfl) (s_val rfl (v_pick_t rfl rfl) (s_val rfl (v_move rfl) ?_)))
    refine s_and rfl rfl rfl ?_ ?_
    · intro g1_9
      refine s_val rfl (v_move rfl) (s_yes rfl rfl (s_do rfl (d_call1 Tryz.call207 rfl (gmDropN_spec W0 _ pm x.pg h.pg)) ?_))
      rintro _ B_ ⟨rfl, hB_⟩
      obtain rfl := hB_.symm
      refine s_yes rfl rfl (s_val rfl (v_neq rfl rfl) (s_val rfl (v_pick_t rfl rfl) (s_val rfl (v_assign rfl) (x_nil (n_then (x_ret (x_done (.inl rfl) (.cons (r_tmp rfl) .nil) ?_)))))))
      exact ⟨_, ⟨rfl, rfl⟩, inferInstance⟩
    · intro g1_9
      omega
  · intro g1_4
    exact absurd (by decide) g1_4
theorem imFree_spec (W0 : World) (R : List HP) (pm : Nat) (pg : List Pl) (h : Pgs pg) (n : Nat) (hn : n ≤ 8) (hf : pgFree pg 0 n) :
    Spec Tryz.prog W0 297 [.pointer (some ⟨pm, 0, none⟩), .int .i64 n] (pt pm (gmO pg) :: R) (fun v B => v = .bool true ∧ B = pt pm (gmO pg) :: R) := by
  refine spec_body Tryz.func297 Tryz.ntmps297 rfl rfl ?_
  refine x_seq (x_region (s_val rfl (v_assign rfl) (x_nil (n_then (x_seq (x_seq (x_region (s_val rfl (v_move rfl) (s_val rfl (v_move rfl) (x_nil (n_then (x_block ?_))))))))))))
  refine x_loop (fun i : Nat => i ≤ n) (fun i => [(0, .pointer (some ⟨pm, 0, none⟩)), (8, .int .i64 n), (9, .int .i64 i)]) (fun _ => pt pm (gmO pg) :: R) (fun i => n - i) 0 ?_ ?_ ?_ ?_
  · exact Nat.zero_le _
  · repeat (first | exact sub_nil | refine sub_cons rfl ?_)
  · exact inferInstance
  · intro i hi
    refine x_seq (x_region (s_val rfl (v_lss rfl rfl) (x_nil (n_then (x_seq ?_)))))
    refine x_if rfl ?_ ?_
    · intro c2
      refine x_skip (n_then (x_seq (x_block (x_seq (x_region (s_val rfl (v_move rfl) (s_val rfl (v_assign rfl) (x_nil (n_then (x_seq (x_region (s_val rfl (v_move rfl) (s_val rfl (v_move rfl) (s_do rfl (d_call1 Tryz.call144 rfl (gmGet_spec W0 _ pm pg h i)) ?_))))))))))))))
      rintro _ B_ ⟨rfl, hB_⟩
      obtain rfl := hB_.symm
      refine s_val rfl (v_move rfl) (s_val rfl (v_extract rfl rfl) (s_val rfl (v_extract rfl rfl) (s_do rfl (d_allocA Tryz.zeroValue238) ?_)))
      rintro _ _ ⟨bx, rfl, rfl⟩
      refine s_do0 (d_storeAll Tryz.sizeOf238 rfl rfl rfl rfl rfl) ?_
      rintro _ _ rfl
      refine s_val rfl (v_assign rfl) (x_nil (n_then (x_seq (x_region (s_val rfl (v_move rfl) (x_nil (n_then ?_)))))))
      refine x_if rfl ?_ ?_
      · intro c5
        exact absurd c5 (by rw [hf i (Nat.zero_le _) (by omega)]; decide)
      · intro c5
        refine x_skip (n_block (n_then (x_region ?_)))
        refine s_val rfl (v_add rfl rfl (by first | exact w64 (by omega) | rfl)) ?_
        refine s_val rfl (v_move rfl) (x_nil (n_then ?_))
        refine inv_intro (i + 1) ?_ ?_ ?_ ?_
        · omega
        · omega
        · repeat (first | exact sub_nil | refine sub_cons rfl ?_)
        · exact inferInstance
    · intro c2
      refine x_exit (e_then (e_then (e_block (n_then (x_seq (x_region (s_val rfl (v_assign rfl) (x_nil (n_then (x_ret (x_done (.inl rfl) (.cons (r_tmp rfl) .nil) ?_)))))))))))
      exact ⟨_, ⟨rfl, rfl⟩, inferInstance⟩
theorem imMay_spec (W0 : World) (R : List HP) (pb ps pm who n : Nat) (x : Im) (h : ImOk x) (h0 : 0 < x.fr.length) (hw : who < 16) (h1 : 1 ≤ n) (h8 : n ≤ 8) (hf : pgFree x.pg 0 n) (hl : n ≤ (fre x.po who).length) :
    Spec Tryz.prog W0 200 [.pointer (some ⟨pb, 0, none⟩), .pointer (some ⟨ps, 0, none⟩), .pointer (some ⟨pm, 0, none⟩), .int .i64 who, .int .i64 n] (poH pb (ps, x.po) :: stoH ps x.fr :: pt pm (gmO x.pg) :: R) (fun v B => v = .int .i64 0 ∧ B = poH pb (ps, x.po) :: stoH ps x.fr :: pt pm (gmO x.pg) :: R) := by
  have hle := h.len
  refine spec_body Tryz.func200 Tryz.ntmps200 rfl rfl ?_
  refine x_seq (x_region (s_val rfl (v_assign rfl) (x_nil (n_then (x_seq (x_block (x_seq (x_region (s_val rfl (v_move rfl) (s_val rfl (v_move rfl) (s_val rfl (v_move rfl) (s_do rfl (d_call3 Tryz.call296 rfl (imMade_spec W0 _ pb ps pm x h h0)) ?_))))))))))))
  rintro _ B_ ⟨rfl, hB_⟩
  obtain rfl := hB_.symm
  refine s_val rfl (v_not rfl) (s_val rfl (v_assign rfl) (x_nil (n_then ?_)))
  refine x_if rfl ?_ ?_
  · intro c1
    exact absurd c1 (by decide)
  · intro c1
    refine x_seq (x_seq (x_region (s_val rfl (v_move rfl) (s_val rfl (v_lss rfl rfl) (s_val rfl (v_assign rfl) (x_nil (n_then ?_)))))))
    refine x_if rfl ?_ ?_
    · intro c3
      omega
    · intro c3
      refine x_seq (x_region (s_val rfl (v_move rfl) (s_val rfl (v_gtr rfl rfl) (s_val rfl (v_assign rfl) (x_nil (n_then ?_))))))
      refine x_if rfl ?_ ?_
      · intro c4
        omega
      · intro c4
        refine x_seq (x_region (s_val rfl (v_move rfl) (s_val rfl (v_lss rfl rfl) (s_val rfl (v_assign rfl) (x_nil (n_then ?_))))))
        refine x_if rfl ?_ ?_
        · intro c5
          omega
        · intro c5
          refine x_region (s_val rfl (v_move rfl) (s_val rfl (v_geq rfl rfl) (s_val rfl (v_assign rfl) (x_nil (n_then ?_)))))
          refine x_if rfl ?_ ?_
          · intro c6
            omega
          · intro c6
            refine x_seq (x_region (s_val rfl (v_move rfl) (s_val rfl (v_move rfl) (s_do rfl (d_call1 Tryz.call297 rfl (imFree_spec W0 _ pm x.pg h.pg n h8 hf)) ?_))))
            rintro _ B_ ⟨rfl, hB_⟩
            obtain rfl := hB_.symm
            refine s_val rfl (v_not rfl) (s_val rfl (v_assign rfl) (x_nil (n_then ?_)))
            refine x_if rfl ?_ ?_
            · intro c8
              exact absurd c8 (by decide)
            · intro c8
              refine x_seq (x_region (s_val rfl (v_move rfl) (s_val rfl (v_move rfl) ?_)))
              refine s_do rfl (d_call1 Tryz.call298 rfl (poLeft_spec W0 _ pb ps x.po who (by omega) hw)) ?_
              rintro _ B_ ⟨rfl, hB_⟩
              obtain rfl := hB_.symm
              refine s_val rfl (v_move rfl) (s_val rfl (v_lss rfl rfl) (s_val rfl (v_assign rfl) (x_nil (n_then ?_))))
              refine x_if rfl ?_ ?_
              · intro c10
                omega
              · intro c10
                refine x_skip (n_block (n_then (x_seq (x_region (s_val rfl (v_assign rfl) (x_nil (n_then (x_ret (x_done (.inl rfl) (.cons (r_tmp rfl) .nil) ?_)))))))))
                exact ⟨_, ⟨rfl, rfl⟩, inferInstance⟩
theorem setE_ok {pg : List Pl} {i f : Nat} (hi : i < 8) (hf : f < 32) (ht : thereB pg (i : Nat) = false) : setE pg i ((f : Int), 3) = 0 := by
  rw [setE, if_pos ⟨by simp only [isP, decide_eq_true_eq]; omega, by simp only [okPl, decide_eq_true_eq]; omega⟩, ht]; rfl
theorem imLay1_spec (W0 : World) (R : List HP) (b6 b9 b14 b7 b8 g pb ps pm who i f : Nat) (l : List Nat) (x : Im) (h : ImOk x) (ws : List Nat) (hw : who < 16) (hi : i < 8) (he : fre x.po who = f :: l) (ht : thereB x.pg (i : Nat) = false) (hb : ∀ y ∈ ws, y < 4294967296) (hN : ws.length ≤ 128) :
    Spec Tryz.prog W0 201 ([] ++ [.int .i64 i] ++ [.pointer (some ⟨b6, 0, none⟩), .pointer (some ⟨b9, 0, none⟩), .pointer (some ⟨b14, 0, none⟩), .pointer (some ⟨b7, 0, none⟩), .pointer (some ⟨b8, 0, none⟩)])
      (pt b6 (cob [.pointer (some ⟨pb, 0, none⟩)] 64) :: pt b9 (cob [.int .i64 who] 3) :: pt b14 (cob [.slice (some ⟨g, 0, none⟩) ws.length ws.length] 98) :: pt b7 (cob [.pointer (some ⟨ps, 0, none⟩)] 63) :: pt b8 (cob [.pointer (some ⟨pm, 0, none⟩)] 207) :: pt g (cob (ws.map wV) 42) :: poH pb (ps, x.po) :: stoH ps x.fr :: pt pm (gmO x.pg) :: R)
      (fun v B => v = .int .i64 0 ∧ B = pt b6 (cob [.pointer (some ⟨pb, 0, none⟩)] 64) :: pt b9 (cob [.int .i64 who] 3) :: pt b14 (cob [.slice (some ⟨g, 0, none⟩) ws.length ws.length] 98) :: pt b7 (cob [.pointer (some ⟨ps, 0, none⟩)] 63) :: pt b8 (cob [.pointer (some ⟨pm, 0, none⟩)] 207) :: pt g (cob (ws.map wV) 42) :: poH pb (ps, (stepI who ws x i).po) :: stoH ps (stepI who ws x i).fr :: pt pm (gmO (stepI who ws x i).pg) :: R) := by
  have hf := mem_fre.1 (show f ∈ fre x.po who by rw [he]; simp)
  have hpl := h.po.len
  have hst : stepI who ws x i = ⟨wrW f (pgW ws i) 0 x.fr, x.po.set f ((who : Int), true), setP x.pg i ((f : Int), 3)⟩ := by rw [stepI, he]
  rw [hst]
  have hpgb : ∀ y ∈ pgW ws i, y < 4294967296 := fun y hy => hb y (List.mem_of_mem_drop (List.mem_of_mem_take hy))
  have hpl16 : (pgW ws i).length ≤ 16 := by rw [pgW, List.length_take]; omega
  simp only [List.nil_append, List.cons_append]
  refine spec_body Tryz.func201 Tryz.ntmps201 rfl rfl ?_
  refine x_seq (x_region (s_val rfl (v_assign rfl) (x_nil (n_then (x_seq (x_region (s_val rfl (v_load Tryz.isAgg64 rfl (cell_own rfl)) ?_)))))))
  refine s_val rfl (v_load Tryz.isAgg3 rfl (cell_own rfl)) ?_
  refine s_do rfl (d_call1 Tryz.call202 rfl (poTake_spec W0 _ pb ps x.po who f l hw h.po he)) ?_
  rintro _ B_ ⟨rfl, hB_⟩
  obtain rfl := hB_.symm
  refine s_val rfl (v_move rfl) (s_val rfl (v_extract rfl rfl) (s_val rfl (v_extract rfl rfl) (s_val rfl (v_assign rfl) (s_val rfl (v_assign rfl) (x_nil (n_then (x_seq (x_seq (x_region (s_val rfl (v_move rfl) (s_val rfl (v_neq rfl rfl) (x_nil (n_then ?_)))))))))))))
  refine x_if rfl ?_ ?_
  · intro c2
    exact absurd c2 (by decide)
  · intro c2
    refine x_skip (n_then (x_seq (x_seq (x_region (s_val rfl (v_load Tryz.isAgg98 rfl (cell_own rfl)) ?_)))))
    refine s_val rfl (v_move rfl) ?_
    refine s_do rfl (d_call Tryz.call203 rfl (imPage_spec W0 _ (some ⟨g, 0, none⟩) ws.length ws.length i ws rfl (Nat.le_refl _) hi (by omega))) ?_
    rintro _ B_ ⟨rfl, hB_⟩
    obtain rfl := hB_.symm
    refine s_val rfl (v_len_slice Tryz.underlying98 rfl) (s_val rfl (v_move rfl) (x_nil (n_then (x_block ?_))))
    refine x_loop (fun k : Nat => k ≤ (pgW ws i).length) (fun k => [(0, .int .i64 i), (4, .pointer (some ⟨b7, 0, none⟩)), (5, .pointer (some ⟨b8, 0, none⟩)), (8, .int .i64 f), (23, .slice (sliA (some ⟨g, 0, none⟩) ws.length (pgF ws.length i) 1) (pgW ws i).length (ws.length - pgF ws.length i)), (24, .int .i64 (pgW ws i).length), (25, .int .i64 k)]) (fun k => pt b6 (cob [.pointer (some ⟨pb, 0, none⟩)] 64) :: pt b9 (cob [.int .i64 who] 3) :: pt b14 (cob [.slice (some ⟨g, 0, none⟩) ws.length ws.length] 98) :: pt b7 (cob [.pointer (some ⟨ps, 0, none⟩)] 63) :: pt b8 (cob [.pointer (some ⟨pm, 0, none⟩)] 207) :: pt g (cob (ws.map wV) 42) :: poH pb (ps, x.po.set f ((who : Int), true)) :: stoH ps (wrW f ((pgW ws i).take k) 0 x.fr) :: pt pm (gmO x.pg) :: R) (fun k => (pgW ws i).length - k) 0 ?_ ?_ ?_ ?_
    · exact Nat.zero_le _
    · repeat (first | exact sub_nil | refine sub_cons rfl ?_)
    · rw [show wrW f ((pgW ws i).take 0) 0 x.fr = x.fr from rfl]
      exact inferInstance
    · intro k hk
      refine x_seq (x_region (s_val rfl (v_lss rfl rfl) (x_nil (n_then (x_seq ?_)))))
      refine x_if rfl ?_ ?_
      · intro c5
        refine x_skip (n_then (x_seq (x_block (x_seq ?_))))
        have hk1 : k < (pgW ws i).length := by omega
        have hsl : SlA (OwnP W0 (pt b6 (cob [.pointer (some ⟨pb, 0, none⟩)] 64) :: pt b9 (cob [.int .i64 who] 3) :: pt b14 (cob [.slice (some ⟨g, 0, none⟩) ws.length ws.length] 98) :: pt b7 (cob [.pointer (some ⟨ps, 0, none⟩)] 63) :: pt b8 (cob [.pointer (some ⟨pm, 0, none⟩)] 207) :: pt g (cob (ws.map wV) 42) :: poH pb (ps, x.po.set f ((who : Int), true)) :: stoH ps (wrW f ((pgW ws i).take k) 0 x.fr) :: pt pm (gmO x.pg) :: R)) (some ⟨g, 0, none⟩) 1 wV1 ws := sla_pt (b := g) wV1_len (wV1_flat ws).symm
        obtain ⟨gb, go, hga, hc⟩ := (page_sla (i := i) hsl (Nat.le_refl _)).at_ hk1
        obtain ⟨y, hy⟩ : ∃ y, (pgW ws i)[k] = y := ⟨_, rfl⟩
        rw [hy] at hc
        have hyb := hpgb _ (List.getElem_mem hk1)
        rw [hy] at hyb
        have htk : (pgW ws i).take (k + 1) = (pgW ws i).take k ++ [y] := by rw [← hy]; exact List.take_succ_eq_append_getElem hk1
        obtain ⟨hF, hFl⟩ := wrW_ok (f := f) (l := (pgW ws i).take k) (k := 0) h.fr
        have hs0 := wrW_snoc f y ((pgW ws i).take k) 0 x.fr
        rw [← htk, List.length_take, Nat.min_eq_left (by omega), Nat.zero_add] at hs0
        refine x_region (s_val rfl (v_move rfl) ?_)
        refine s_val rfl (v_idxA Tryz.underlying98 Tryz.sizeOf42 rfl hga rfl rfl hk1 (by first | exact Nat.zero_add _ | rfl)) ?_
        refine s_val rfl (v_load Tryz.isAgg42 rfl (hc 0 _ rfl)) ?_
        refine s_val rfl (v_assign rfl) (s_val rfl (v_assign rfl) (x_nil (n_then (x_region (s_val rfl (v_load Tryz.isAgg63 rfl (cell_own rfl)) ?_)))))
        refine s_val rfl (v_move rfl) (s_val rfl (v_move rfl) ?_)
        refine s_val rfl (v_mul rfl rfl (by rw [w64 (by omega)]; omega : IntKind.wrap .i64 (4 * (k : Int)) = ((4 * k : Nat) : Int))) ?_
        refine s_val rfl (v_move rfl) (s_do rfl (d_call1 Tryz.call29 rfl (frSave_spec W0 _ ps (wrW f ((pgW ws i).take k) 0 x.fr) f (4 * k : Nat) 4 y hyb hF)) ?_)
        rintro _ B_ ⟨rfl, hB_⟩
        obtain rfl := hB_.symm
        refine x_nil (n_block (n_then (x_region ?_)))
        refine s_val rfl (v_add rfl rfl (by first | exact w64 (by omega) | rfl)) ?_
        refine s_val rfl (v_move rfl) (x_nil (n_then ?_))
        refine inv_intro (k + 1) ?_ ?_ ?_ ?_
        · omega
        · omega
        · repeat (first | exact sub_nil | refine sub_cons rfl ?_)
        · rw [hs0]
          exact inferInstance
      · intro c5
        refine x_exit (e_then (e_then (e_block (n_then (x_seq ?_)))))
        obtain rfl : k = (pgW ws i).length := by omega
        rw [List.take_of_length_le (Nat.le_refl _)]
        refine x_region (s_val rfl (v_load Tryz.isAgg207 rfl (cell_own rfl)) ?_)
        refine s_val rfl (v_move rfl) (s_val rfl (v_move rfl) (s_val rfl (v_build Tryz.underlying238 Tryz.zeroValue238 (sized_cons Tryz.sizeOf3 (sized_cons Tryz.sizeOf3 sized_nil)) (fil_scal rfl Tryz.sizeOf3 rfl rfl (Nat.le_of_ble_eq_true rfl) SetL.eq (fil_scal rfl Tryz.sizeOf3 rfl rfl (Nat.le_of_ble_eq_true rfl) SetL.eq fil_nil))) ?_))
        refine s_do rfl (d_call1 Tryz.call204 rfl (gmSet_spec W0 _ pm x.pg h.pg i ((f : Int), 3))) ?_
        rintro _ B_ ⟨rfl, hB_⟩
        obtain rfl := hB_.symm
        refine s_val rfl (v_assign rfl) (x_nil (n_then (x_ret (x_done (.inl rfl) (.cons (r_tmp rfl) .nil) ?_))))
        rw [setE_ok hi (by omega) ht]
        exact ⟨_, ⟨rfl, rfl⟩, inferInstance⟩
theorem imLay_spec (W0 : World) (R : List HP) (pb ps pm who n : Nat) (x : Im) (h : ImOk x) (h0 : 0 < x.fr.length) (a : Option Addr) (c : Nat) (ws : List Nat) (hw : who < 16) (h1 : 1 ≤ n) (h8 : n ≤ 8) (hf : pgFree x.pg 0 8) (hl : n ≤ (fre x.po who).length)
    (hs : ∀ A, Ent A R → SlA (OwnP W0 A) a 1 wV1 ws) (hb : ∀ y ∈ ws, y < 4294967296) (hn : ws.length < 9223372036854775808) :
    Spec Tryz.prog W0 88 [.pointer (some ⟨pb, 0, none⟩), .pointer (some ⟨ps, 0, none⟩), .pointer (some ⟨pm, 0, none⟩), .int .i64 who, .int .i64 n, .slice a ws.length c] (poH pb (ps, x.po) :: stoH ps x.fr :: pt pm (gmO x.pg) :: R)
      (fun v B => v = .int .i64 0 ∧ B = poH pb (ps, (layI who (cutW ws n) n x).po) :: stoH ps (layI who (cutW ws n) n x).fr :: pt pm (gmO (layI who (cutW ws n) n x).pg) :: R) := by
  have hlen := cutW_len ws n
  have hcb : ∀ y ∈ cutW ws n, y < 4294967296 := fun y hy => hb y (List.mem_of_mem_take hy)
  have hok : ∀ i, ImOk (layI who (cutW ws n) i x) := fun i => layI_ok hw h
  have hfl : ∀ i, (layI who (cutW ws n) i x).fr.length = x.fr.length := fun i => by
    induction i with
    | zero => rfl
    | succ i ih =>
      rw [layI, stepI]
      split
      · rw [(wrW_ok (hok i).fr).2]; exact ih
      · exact ih
  refine spec_body Tryz.func88 Tryz.ntmps88 rfl rfl ?_
  refine x_seq (x_region (s_do rfl (d_box rfl rfl) ?_))
  rintro _ _ ⟨b6, rfl, rfl⟩
  refine s_do rfl (d_box rfl rfl) ?_
  rintro _ _ ⟨b7, rfl, rfl⟩
  refine s_do rfl (d_box rfl rfl) ?_
  rintro _ _ ⟨b8, rfl, rfl⟩
  refine s_do rfl (d_box rfl rfl) ?_
  rintro _ _ ⟨b9, rfl, rfl⟩
  refine s_val rfl (v_assign rfl) (x_nil (n_then (x_seq (x_seq (x_region (s_val rfl (v_load Tryz.isAgg64 rfl (cell_own rfl)) ?_))))))
  refine s_val rfl (v_load Tryz.isAgg63 rfl (cell_own rfl)) ?_
  refine s_val rfl (v_load Tryz.isAgg207 rfl (cell_own rfl)) ?_
  refine s_val rfl (v_load Tryz.isAgg3 rfl (cell_own rfl)) ?_
  refine s_val rfl (v_move rfl) ?_
  refine s_do rfl (d_call3 Tryz.call200 rfl (imMay_spec W0 _ pb ps pm who n x h h0 hw h1 h8 (fun i q1 q2 => hf i q1 (by omega)) hl)) ?_
  rintro _ B_ ⟨rfl, hB_⟩
  obtain rfl := hB_.symm
  refine s_val rfl (v_assign rfl) (x_nil (n_then (x_seq (x_region (s_val rfl (v_move rfl) (s_val rfl (v_neq rfl rfl) (x_nil (n_then ?_))))))))
  refine x_if rfl ?_ ?_
  · intro c2
    exact absurd c2 (by decide)
  · intro c2
    refine x_skip (n_then (x_seq (x_region (s_val rfl (v_move rfl) (s_val rfl (v_move rfl) (s_do rfl (d_call Tryz.call87 rfl (igCut_spec W0 _ a c n ws (hs _ inferInstance) h8 hn)) ?_))))))
    rintro _ B_ ⟨g, rfl, hB_⟩
    obtain rfl := hB_.symm
    refine s_do rfl (d_alloc Tryz.zeroValue98 rfl) ?_
    rintro _ _ ⟨b14, rfl, rfl⟩
    refine s_do0 (d_store Tryz.sizeOf98 rfl rfl rfl (Nat.le_of_ble_eq_true rfl) SetL.eq) ?_
    rintro _ _ rfl
    refine x_nil (n_then (x_seq (x_region (s_val rfl (v_mkFunc rfl rfl) ?_))))
    refine s_val rfl (v_assign rfl) (x_nil (n_then (x_seq (x_seq (x_region (s_val rfl (v_move rfl) (s_val rfl (v_move rfl) (x_nil (n_then (x_block ?_))))))))))
    refine x_loop (fun i : Nat => i ≤ n) (fun i => [(15, .func (.func 201) #[] #[.pointer (some ⟨b6, 0, none⟩), .pointer (some ⟨b9, 0, none⟩), .pointer (some ⟨b14, 0, none⟩), .pointer (some ⟨b7, 0, none⟩), .pointer (some ⟨b8, 0, none⟩)]), (31, .int .i64 n), (32, .int .i64 i)]) (fun i => pt b6 (cob [.pointer (some ⟨pb, 0, none⟩)] 64) :: pt b9 (cob [.int .i64 who] 3) :: pt b14 (cob [.slice (some ⟨g, 0, none⟩) (cutW ws n).length (cutW ws n).length] 98) :: pt b7 (cob [.pointer (some ⟨ps, 0, none⟩)] 63) :: pt b8 (cob [.pointer (some ⟨pm, 0, none⟩)] 207) :: pt g (cob ((cutW ws n).map wV) 42) :: poH pb (ps, (layI who (cutW ws n) i x).po) :: stoH ps (layI who (cutW ws n) i x).fr :: pt pm (gmO (layI who (cutW ws n) i x).pg) :: R) (fun i => n - i) 0 ?_ ?_ ?_ ?_
    · exact Nat.zero_le _
    · repeat (first | exact sub_nil | refine sub_cons rfl ?_)
    · rw [show layI who (cutW ws n) 0 x = x from rfl]
      exact inferInstance
    · intro i hi
      refine x_seq (x_region (s_val rfl (v_lss rfl rfl) (x_nil (n_then (x_seq ?_)))))
      refine x_if rfl ?_ ?_
      · intro c7
        refine x_skip (n_then (x_seq (x_block (x_seq (x_region (s_val rfl (v_move rfl) (s_val rfl (v_assign rfl) (x_nil (n_then (x_seq ?_))))))))))
        have hin : i < n := by omega
        have hfr := layI_fre (who := who) (words := cutW ws n) (x := x) i
        have hpg := (layI_pg (who := who) (words := cutW ws n) hf h.pg.len i (by omega)).1
        obtain ⟨f, l, he⟩ : ∃ f l, fre (layI who (cutW ws n) i x).po who = f :: l := by
          cases e : fre (layI who (cutW ws n) i x).po who with
          | nil => rw [e] at hfr; simp at hfr; omega
          | cons f l => exact ⟨f, l, rfl⟩
        refine x_region (s_val rfl (v_move rfl) (s_val rfl (v_move rfl) ?_))
        refine s_do rfl (d_callv (us := []) (cs := [.pointer (some ⟨b6, 0, none⟩), .pointer (some ⟨b9, 0, none⟩), .pointer (some ⟨b14, 0, none⟩), .pointer (some ⟨b7, 0, none⟩), .pointer (some ⟨b8, 0, none⟩)]) rfl Tryz.call201 rfl (imLay1_spec W0 R b6 b9 b14 b7 b8 g pb ps pm who i f l (layI who (cutW ws n) i x) (hok i) (cutW ws n) hw (by omega) he (hpg i (Nat.le_refl _) (by omega)) hcb (by omega))) ?_
        rintro _ B_ ⟨rfl, hB_⟩
        obtain rfl := hB_.symm
        refine s_val rfl (v_assign rfl) (x_nil (n_then (x_seq (x_region (s_val rfl (v_move rfl) (s_val rfl (v_neq rfl rfl) (x_nil (n_then ?_))))))))
        refine x_if rfl ?_ ?_
        · intro c10
          exact absurd c10 (by decide)
        · intro c10
          refine x_skip (n_block (n_then (x_region ?_)))
          refine s_val rfl (v_add rfl rfl (by first | exact w64 (by omega) | rfl)) ?_
          refine s_val rfl (v_move rfl) (x_nil (n_then ?_))
          refine inv_intro (i + 1) ?_ ?_ ?_ ?_
          · omega
          · omega
          · repeat (first | exact sub_nil | refine sub_cons rfl ?_)
          · exact ent_refl
      · intro c7
        refine x_exit (e_then (e_then (e_block (n_then (x_seq (x_region (s_val rfl (v_assign rfl) (x_nil (n_then (x_ret (x_done (.inl rfl) (.cons (r_tmp rfl) .nil) ?_)))))))))))
        obtain rfl : i = n := by omega
        exact ⟨_, ⟨rfl, rfl⟩, inferInstance⟩
end Go.Proofs.YtnidndllknffgaaGreat
namespace Go.Proofs.YtnidndllknffgaaGreat
open Go.RowKit
set_option linter.unusedSimpArgs false
set_option linter.unusedVariables false
set_option maxRecDepth 20000
@[reducible] def whV (x : Int × Bool) : List Value := [.int .i64 x.1]
@[reducible] def tnV (x : Int × Bool) : List Value := [.bool x.2]
def rpoH (pb : Nat) (x : Nat × Po) : HP := chk (fun C => ∃ a c a2 c2, C = [pt pb (cob [.pointer (some ⟨x.1, 0, none⟩), .slice a x.2.length c, .slice a2 x.2.length c2] 344), osl 3 1 (.slice a x.2.length c) (x.2.flatMap whV), osl 4 1 (.slice a2 x.2.length c2) (x.2.flatMap tnV)])
section
variable {P : Program} {W0 : World} {N : FSz} {K : Act → World → Prop} {e : Env} {A B R R1 R2 R3 : List HP} {pb ps n : Nat} {po : Po} {f : FuncId} {args : List Value} {Post : Value → List HP → Prop}
theorem wh_len (po : Po) : (po.flatMap whV).length = po.length := by rw [flat_len (k := 1) (fun _ => rfl)]; omega
theorem tn_len (po : Po) : (po.flatMap tnV).length = po.length := by rw [flat_len (k := 1) (fun _ => rfl)]; omega
theorem run_rpo [hk : Tk rpoH pb A (ps, po) R] (h : ∀ a c a2 c2, Run W0 N K e (pt pb (cob [.pointer (some ⟨ps, 0, none⟩), .slice a po.length c, .slice a2 po.length c2] 344) :: osl 3 1 (.slice a po.length c) (po.flatMap whV) :: osl 4 1 (.slice a2 po.length c2) (po.flatMap tnV) :: R)) : Run W0 N K e A :=
  run_tk (r := rpoH) (b := pb) (run_chk fun C hC => by obtain ⟨a, c, a2, c2, rfl⟩ := hC; exact h a c a2 c2)
theorem ent_rpo {a a2 : Option Addr} {c c2 n2 : Nat} {xs ys : List Value} [h1 : Tk pt pb A (cob [.pointer (some ⟨ps, 0, none⟩), .slice a n c, .slice a2 n2 c2] 344) R1] [h2 : Tk (osl 3 1) (.slice a n c) R1 xs R2] [h3 : Tk (osl 4 1) (.slice a2 n2 c2) R2 ys R3]
    (hn : n = po.length) (hn2 : n2 = po.length) (hx : xs = po.flatMap whV) (hy : ys = po.flatMap tnV) [k : Ent R3 B] : Ent A (rpoH pb (ps, po) :: B) := by
  subst hn; subst hn2; subst hx; subst hy
  exact (Ent.ofPerm (h1.perm.trans ((h2.perm.trans (h3.perm.cons _)).cons _))).trans ((Ent.cons (Ent.cons (Ent.cons k))).trans (ent_chk (R := B) (C := [_, _, _]) ⟨a, c, a2, c2, rfl⟩))
theorem run_rpoN [hk : Tk rpoH pb A (ps, po) R] (h0 : 0 < po.length) (h : ∀ g c g2 c2 sp sp2, po.length ≤ c → c ≤ maxLen → (po.flatMap whV ++ sp).length = c * 1 → po.length ≤ c2 → c2 ≤ maxLen → (po.flatMap tnV ++ sp2).length = c2 * 1 →
    Run W0 N K e (pt pb (cob [.pointer (some ⟨ps, 0, none⟩), .slice (some ⟨g, 0, none⟩) po.length c, .slice (some ⟨g2, 0, none⟩) po.length c2] 344) :: pt g (cob (po.flatMap whV ++ sp) 3) :: pt g2 (cob (po.flatMap tnV ++ sp2) 4) :: R)) : Run W0 N K e A := by
  refine run_rpo (pb := pb) fun a c a2 c2 => ?_
  refine run_tk (r := osl 3 1) (b := .slice a po.length c) ?_
  refine run_osl (fun h1 h2 => by have := congrArg List.length h2; rw [wh_len, List.length_nil] at this; omega) fun g n cap sp h1 h2 h3 h4 h5 => ?_
  cases h1
  refine run_tk (r := osl 4 1) (b := .slice a2 po.length c2) ?_
  refine run_osl (fun h1 h2 => by have := congrArg List.length h2; rw [tn_len, List.length_nil] at this; omega) fun g2 n2 cap2 sp2 k1 k2 k3 k4 k5 => ?_
  cases k1
  exact run_ent inferInstance (h g c g2 c2 sp sp2 h2 h3 h5 k2 k3 k5)
theorem ent_rpoN {g g2 c c2 n2 : Nat} {xs ys sp sp2 : List Value} [h1 : Tk pt pb A (cob [.pointer (some ⟨ps, 0, none⟩), .slice (some ⟨g, 0, none⟩) n c, .slice (some ⟨g2, 0, none⟩) n2 c2] 344) R1] [h2 : Tk pt g R1 (cob (xs ++ sp) 3) R2] [h3 : Tk pt g2 R2 (cob (ys ++ sp2) 4) R3]
    (hn : n = po.length) (hn2 : n2 = po.length) (hx : xs = po.flatMap whV) (hy : ys = po.flatMap tnV) (a1 : n ≤ c) (a2 : c ≤ maxLen) (a3 : (xs ++ sp).length = c * 1) (b1 : n2 ≤ c2) (b2 : c2 ≤ maxLen) (b3 : (ys ++ sp2).length = c2 * 1) [k : Ent R3 B] : Ent A (rpoH pb (ps, po) :: B) := by
  have e3 : Ent R2 (osl 4 1 (.slice (some ⟨g2, 0, none⟩) n2 c2) ys :: B) := ent_osl b1 b2 (by rw [hy, tn_len, hn2]; omega) b3
  have e2 : Ent R1 (osl 3 1 (.slice (some ⟨g, 0, none⟩) n c) xs :: osl 4 1 (.slice (some ⟨g2, 0, none⟩) n2 c2) ys :: B) := ent_osl (k := e3) a1 a2 (by rw [hx, wh_len, hn]; omega) a3
  refine (Ent.ofPerm h1.perm).trans ((Ent.cons e2).trans ?_)
  exact ent_rpo hn hn2 hx hy
end
theorem wh_get {po : Po} {sp : List Value} {i : Nat} (hi : i < po.length) : (po.flatMap whV ++ sp)[i * 1]? = some (.int .i64 (poA po i).1) := by
  have := flat_get (f := whV) (k := 1) (fun _ => rfl) po i 0 sp hi (by decide)
  rw [Nat.add_zero] at this
  rw [this]; simp [whV, poA, List.getD, hi]
theorem tn_get {po : Po} {sp : List Value} {i : Nat} (hi : i < po.length) : (po.flatMap tnV ++ sp)[i * 1]? = some (.bool (poA po i).2) := by
  have := flat_get (f := tnV) (k := 1) (fun _ => rfl) po i 0 sp hi (by decide)
  rw [Nat.add_zero] at this
  rw [this]; simp [tnV, poA, List.getD, hi]
theorem wh_set {po : Po} {sp : List Value} {i : Nat} {v : Int} {t : Bool} (hi : i < po.length) : (po.flatMap whV ++ sp).set (i * 1) (.int .i64 v) = (po.set i (v, t)).flatMap whV ++ sp := by
  have := flat_set1 (f := whV) (k := 1) (fun _ => rfl) po i 0 (.int .i64 v) (v, t) sp hi (by decide) (by simp [whV])
  rwa [Nat.add_zero] at this
theorem tn_set {po : Po} {sp : List Value} {i : Nat} {v : Int} {t : Bool} (hi : i < po.length) : (po.flatMap tnV ++ sp).set (i * 1) (.bool t) = (po.set i (v, t)).flatMap tnV ++ sp := by
  have := flat_set1 (f := tnV) (k := 1) (fun _ => rfl) po i 0 (.bool t) (v, t) sp hi (by decide) (by simp [tnV])
  rwa [Nat.add_zero] at this
theorem wh_same {po : Po} {i : Nat} {t : Bool} (hi : i < po.length) : (po.set i ((poA po i).1, t)).flatMap whV = po.flatMap whV := by
  have h := wh_set (po := po) (sp := []) (i := i) (v := (poA po i).1) (t := t) hi
  rw [List.append_nil, List.append_nil, Nat.mul_one] at h
  rw [← h]
  refine vs_self ?_
  have := wh_get (po := po) (sp := []) hi
  rwa [List.append_nil, Nat.mul_one] at this
theorem tn_same {po : Po} {i : Nat} {v : Int} (hi : i < po.length) : (po.set i (v, (poA po i).2)).flatMap tnV = po.flatMap tnV := by
  have h := tn_set (po := po) (sp := []) (i := i) (v := v) (t := (poA po i).2) hi
  rw [List.append_nil, List.append_nil, Nat.mul_one] at h
  rw [← h]
  refine vs_self ?_
  have := tn_get (po := po) (sp := []) hi
  rwa [List.append_nil, Nat.mul_one] at this
theorem rfClear_spec (W0 : World) (R : List HP) (qs : Nat) (fr : List Frm) (f : Nat) (hf : f < fr.length) :
    Spec Tryz.prog W0 193 [.pointer (some ⟨qs, 0, none⟩), .int .i64 f] (rstoH qs fr :: R) (fun v B => v = .int .i64 0 ∧ B = rstoH qs (fr.set f zeros) :: R) := by
  have hi : isF fr.length f = true := by simp only [isF, decide_eq_true_eq]; omega
  refine spec_body Tryz.func193 Tryz.ntmps193 rfl rfl ?_
  refine x_seq (x_region (s_val rfl (v_assign rfl) (x_nil (n_then (x_seq (x_seq (x_region (s_val rfl (v_move rfl) (s_val rfl (v_move rfl) (s_do rfl (d_call1 Tryz.call192 rfl (rfIs_spec W0 _ qs fr f)) ?_))))))))))
  rintro _ B_ ⟨rfl, hB_⟩
  obtain rfl := hB_.symm
  refine s_val rfl (v_not rfl) (x_nil (n_then ?_))
  refine x_if rfl ?_ ?_
  · intro c1
    exact absurd c1 (by simp [hi])
  · intro c1
    refine x_skip (n_then (x_seq ?_))
    refine run_rstoN (qs := qs) hf fun a c vs vi hv hvi => ?_
    refine run_oslT (E := 174) (sz := 1) (v := .slice a fr.length c) (fun h1 h2 => by have := (Value.slice.inj h1).2.1; omega) fun g n c' sp h1 h2 h3 h4 h5 => ?_
    cases h1
    refine x_draw [(qs, 0, _)] 8 mixed rfl (sc_own sc_end) (fun hS => ?_)
    refine d_take 0 rfl rfl (by kernel_rfl) (by kernel_rfl) (by kernel_rfl) rfl hS (v_move rfl) ?_
    refine d_take 1 rfl rfl (by kernel_rfl) (by kernel_rfl) (by kernel_rfl) rfl hS (v_nilCheck rfl) ?_
    refine d_take 2 rfl rfl (by kernel_rfl) (by kernel_rfl) (by kernel_rfl) rfl hS (v_fieldAddr rfl Tryz.underlying193 rfl Tryz.sizeOf191 rfl (by first | exact Nat.zero_add _ | rfl)) ?_
    refine d_take 3 rfl rfl (by kernel_rfl) (by kernel_rfl) (by kernel_rfl) rfl hS (v_load Tryz.isAgg191 rfl (cell_sc0 (k := 0) rfl rfl)) ?_
    refine d_take 4 rfl rfl (by kernel_rfl) (by kernel_rfl) (by kernel_rfl) rfl hS (v_move rfl) ?_
    refine d_one 5 (by kernel_rfl) rfl rfl (d_make (sz := 1) (by_ := 1) (info := Tryz.t5) Tryz.underlying174 (by kernel_rfl) rfl rfl rfl rfl (by decide) rfl rfl rfl rfl (by decide) (by decide)) rfl ?_; clear hS
    rintro _ _ ⟨g3, rfl, rfl⟩
    refine ⟨(sc_own sc_end), fun hS => ?_⟩
    refine d_take 6 rfl rfl (by kernel_rfl) (by kernel_rfl) (by kernel_rfl) rfl hS (v_idx Tryz.underlying191 Tryz.sizeOf174 rfl rfl rfl hf (by first | exact Nat.zero_add _ | rfl)) ?_
    refine d_one 7 (by kernel_rfl) rfl rfl (d_store Tryz.sizeOf174 rfl rfl rfl (by rw [List.length_append]; omega) (by rw [Nat.mul_one, List.set_append_left _ _ (by omega)])) rfl ?_; clear hS
    rintro _ _ rfl
    refine ⟨(sc_own sc_end), fun hS => ?_⟩
    refine d_done (by kernel_rfl) ?_; clear hS
    refine n_then (x_seq (x_region (s_val rfl (v_assign rfl) (x_nil (n_then (x_ret (x_done (.inl rfl) (.cons (r_tmp rfl) .nil) ?_)))))))
    exact ⟨_, ⟨rfl, rfl⟩, shut_rsto (vs := vs) (vi := .slice (some ⟨g3, 0, none⟩) 64 64) (y := zeros) (sp2 := []) rfl rfl rfl hv rfl hf h2 h3 (by rw [← h5]; simp) (by decide) (by decide) rfl rfl⟩
theorem wh_snoc (n : Nat) : (List.replicate n ((-1 : Int), false)).flatMap whV ++ [[Value.int .i64 (-1)]].flatten = (List.replicate (n + 1) ((-1 : Int), false)).flatMap whV := by
  rw [List.replicate_succ', List.flatMap_append]; rfl
theorem tn_snoc (n : Nat) : (List.replicate n ((-1 : Int), false)).flatMap tnV ++ [[Value.bool false]].flatten = (List.replicate (n + 1) ((-1 : Int), false)).flatMap tnV := by
  rw [List.replicate_succ', List.flatMap_append]; rfl
section
variable {A B R R2 : List HP} {qs n c : Nat} {a : Option Addr} {fr : List Frm} {vs : List Value}
theorem ent_rstoB {x : HP} (hv : vs.length = fr.length) : Ent (pt qs (cob [.slice a fr.length c] 193) :: osl 174 1 (.slice a fr.length c) vs :: ((vs.zip fr).map inH ++ (x :: R))) (rstoH qs fr :: x :: R) := ent_rsto (vs := vs) hv rfl
theorem ent_rstoC {x : HP} (hv : vs.length = fr.length) : Ent (pt qs (cob [.slice a fr.length c] 193) :: osl 174 1 (.slice a fr.length c) vs :: ((vs.zip fr).map inH ++ (x :: R))) (x :: rstoH qs fr :: R) := (ent_rstoB hv).trans (Ent.ofPerm (List.Perm.swap _ _ _))
end
theorem ent_rpo_nil {B : List HP} {pb ps : Nat} : Ent (pt pb (cob [.pointer (some ⟨ps, 0, none⟩), nilS, nilS] 344) :: B) (rpoH pb (ps, []) :: B) :=
  (Ent.cons (ent_osl_nil (E := 3) (sz := 1) (k := ent_osl_nil (E := 4) (sz := 1) (A := B) (B := B)))).trans (ent_chk (R := B) (C := [_, _, _]) ⟨none, 0, none, 0, rfl⟩)
theorem rpoNew_spec (W0 : World) (R : List HP) (qs : Nat) (fr : List Frm) (h0 : 0 < fr.length) (h32 : fr.length ≤ 32) :
    Spec Tryz.prog W0 78 [.pointer (some ⟨qs, 0, none⟩)] (rstoH qs fr :: R)
      (fun v B => ∃ pb, v = .tuple #[.pointer (some ⟨pb, 0, none⟩), .int .i64 0] ∧ B = rpoH pb (qs, List.replicate fr.length (-1, false)) :: rstoH qs fr :: R) := by
  refine spec_body Tryz.func78 Tryz.ntmps78 rfl rfl ?_
  refine x_seq (x_region (s_val rfl (v_assign rfl) (s_val rfl (v_assign rfl) (x_nil (n_then (x_seq (x_seq ?_)))))))
  refine run_rsto (qs := qs) fun a c vs hv => ?_
  refine x_region (s_val rfl (v_move rfl) (s_val rfl (v_eql_ptr_nil Tryz.underlying104 rfl rfl) (s_val rfl (v_move rfl) ?_)))
  refine s_or rfl rfl rfl ?_ ?_
  · intro g1_3
    cases g1_3
  · intro g1_3
    refine s_val rfl (v_move rfl) (s_yes rfl rfl (s_val rfl (v_nilCheck rfl) (s_yes rfl rfl ?_)))
    refine s_val rfl (v_fieldAddr rfl Tryz.underlying193 rfl Tryz.sizeOf191 rfl (by first | exact Nat.zero_add _ | rfl)) ?_
    refine s_yes rfl rfl (s_val rfl (v_load Tryz.isAgg191 rfl (cell_own rfl)) ?_)
    refine s_yes rfl rfl (s_val rfl (v_len_slice Tryz.underlying191 rfl) (s_yes rfl rfl (s_val rfl (v_eql rfl rfl) (s_val rfl (v_pick_f rfl rfl) (x_nil (n_then ?_))))))
    refine x_if rfl ?_ ?_
    · intro c1
      omega
    · intro c1
      refine x_skip (n_then (x_seq (x_region (s_val rfl (v_move rfl) (s_val rfl (v_build Tryz.underlying344 Tryz.zeroValue344 (sized_cons Tryz.sizeOf104 (sized_cons Tryz.sizeOf37 (sized_cons Tryz.sizeOf342 sized_nil))) (fil_scal rfl Tryz.sizeOf104 rfl rfl (Nat.le_of_ble_eq_true rfl) SetL.eq fil_nil)) ?_)))))
      refine s_do rfl (d_boxA rfl) ?_
      rintro _ _ ⟨pb, rfl, rfl⟩
      refine s_val rfl (v_assign rfl) (x_nil (n_then (x_seq (x_seq (x_region (s_val rfl (v_assign rfl) (x_nil (n_then (x_block ?_)))))))))
      refine x_loop (fun X : Nat => X ≤ fr.length) (fun X => [(0, .pointer (some ⟨qs, 0, none⟩)), (4, .pointer (some ⟨pb, 0, none⟩)), (5, .int .i64 X)]) (fun X => rpoH pb (qs, List.replicate X (-1, false)) :: rstoH qs fr :: R) (fun X => fr.length - X) 0 ?_ ?_ ?_ ?_
      · exact Nat.zero_le _
      · repeat (first | exact sub_nil | refine sub_cons rfl ?_)
      · exact (Ent.cons (ent_rsto (vs := vs) hv rfl)).trans ent_rpo_nil
      · intro i hi
        refine x_seq (x_seq ?_)
        refine run_rsto (qs := qs) fun a c vs hv => ?_
        refine x_region (s_val rfl (v_move rfl) (s_val rfl (v_move rfl) (s_val rfl (v_nilCheck rfl) ?_)))
        refine s_val rfl (v_fieldAddr rfl Tryz.underlying193 rfl Tryz.sizeOf191 rfl (by first | exact Nat.zero_add _ | rfl)) ?_
        refine s_val rfl (v_load Tryz.isAgg191 rfl (cell_own rfl)) ?_
        refine s_val rfl (v_len_slice Tryz.underlying191 rfl) (s_val rfl (v_lss rfl rfl) (x_nil (n_then ?_)))
        refine x_if rfl ?_ ?_
        · intro c5
          refine x_skip (n_then (x_seq (x_block (x_seq (run_ent (B := rstoH qs fr :: rpoH pb (qs, List.replicate i (-1, false)) :: R) (ent_rstoB hv) ?_)))))
          refine run_rpo (pb := pb) fun a c a2 c2 => ?_
          refine x_region (s_val rfl (v_move rfl) (s_val rfl (v_move rfl) (s_val rfl (v_nilCheck rfl) ?_)))
          refine s_val rfl (v_fieldAddr rfl Tryz.underlying344 rfl Tryz.sizeOf37 rfl (by first | exact Nat.zero_add _ | rfl)) ?_
          refine s_val rfl (v_load Tryz.isAgg37 rfl (cell_own rfl)) ?_
          refine s_do rfl (d_sliceLit Tryz.underlying37 Tryz.sizeOf3 Tryz.zeroValue3 rfl rfl rfl rfl rfl (by decide) (by decide)) ?_
          rintro _ _ ⟨b2, rfl, rfl⟩
          refine s_do rfl (d_append (sz := 1) (by_ := 8) (info := Tryz.t3) Tryz.underlying37 (by kernel_rfl) rfl rfl rfl rfl (by decide) rfl rfl cells_all rfl rfl (by simp only [maxLen, List.length_replicate]; omega) (by rw [List.length_replicate]; omega)) ?_
          rintro _ _ ⟨a3, c3, rfl, rfl⟩
          refine s_val rfl (v_nilCheck rfl) ?_
          refine s_val rfl (v_fieldAddr rfl Tryz.underlying344 rfl Tryz.sizeOf37 rfl (by first | exact Nat.zero_add _ | rfl)) ?_
          refine s_do0 (d_store Tryz.sizeOf37 rfl rfl rfl (Nat.le_of_ble_eq_true rfl) SetL.eq) ?_
          rintro _ _ rfl
          refine x_nil (n_then (x_region (s_val rfl (v_move rfl) (s_val rfl (v_move rfl) (s_val rfl (v_nilCheck rfl) ?_)))))
          refine s_val rfl (v_fieldAddr rfl Tryz.underlying344 rfl Tryz.sizeOf342 rfl (by first | exact Nat.zero_add _ | rfl)) ?_
          refine s_val rfl (v_load Tryz.isAgg342 rfl (cell_own rfl)) ?_
          refine s_do rfl (d_sliceLit Tryz.underlying342 Tryz.sizeOf4 Tryz.zeroValue4 rfl rfl rfl rfl rfl (by decide) (by decide)) ?_
          rintro _ _ ⟨b3, rfl, rfl⟩
          refine s_do rfl (d_append (sz := 1) (by_ := 1) (info := Tryz.t4) Tryz.underlying342 (by kernel_rfl) rfl rfl rfl rfl (by decide) rfl rfl cells_all rfl rfl (by simp only [maxLen, List.length_replicate]; omega) (by rw [List.length_replicate]; omega)) ?_
          rintro _ _ ⟨a4, c4, rfl, rfl⟩
          refine s_val rfl (v_nilCheck rfl) ?_
          refine s_val rfl (v_fieldAddr rfl Tryz.underlying344 rfl Tryz.sizeOf342 rfl (by first | exact Nat.zero_add _ | rfl)) ?_
          refine s_do0 (d_store Tryz.sizeOf342 rfl rfl rfl (Nat.le_of_ble_eq_true rfl) SetL.eq) ?_
          rintro _ _ rfl
          refine x_nil (n_block (n_then (x_region (s_val rfl (v_move rfl) ?_))))
          refine s_val rfl (v_add rfl rfl (by first | exact w64 (by omega) | rfl)) ?_
          refine s_val rfl (v_assign rfl) (x_nil (n_then ?_))
          refine inv_intro (i + 1) ?_ ?_ ?_ ?_
          · omega
          · omega
          · repeat (first | exact sub_nil | refine sub_cons rfl ?_)
          · exact ent_rpo (by simp) (by simp) (wh_snoc i) (tn_snoc i)
        · intro c5
          refine x_exit (e_then (e_then (e_block (n_then (x_seq (x_region (s_val rfl (v_move rfl) (s_val rfl (v_assign rfl) (s_val rfl (v_assign rfl) (x_nil (n_then (x_ret (x_done (.inl rfl) (.cons (r_tmp rfl) (.cons (r_tmp rfl) .nil)) ?_)))))))))))))
          obtain rfl : i = fr.length := by omega
          exact ⟨_, ⟨pb, rfl, rfl⟩, ent_rstoC hv⟩
theorem wh_bd {po : Po} {sp : List Value} {i : Nat} (hi : i < po.length) : i * 1 + 1 ≤ (po.flatMap whV ++ sp).length := by rw [List.length_append, wh_len]; omega
theorem tn_bd {po : Po} {sp : List Value} {i : Nat} (hi : i < po.length) : i * 1 + 1 ≤ (po.flatMap tnV ++ sp).length := by rw [List.length_append, tn_len]; omega
theorem rpoOwn_spec (W0 : World) (R : List HP) (pb qs : Nat) (po : Po) (fr : List Frm) (f w : Nat) (hf : f < po.length) (hff : f < fr.length) (hw : w < 16) (ha : poA po f = (-1, false)) :
    Spec Tryz.prog W0 80 [.pointer (some ⟨pb, 0, none⟩), .int .i64 f, .int .i64 w] (rpoH pb (qs, po) :: rstoH qs fr :: R)
      (fun v B => v = .int .i64 0 ∧ B = rpoH pb (qs, po.set f ((w : Int), false)) :: rstoH qs (fr.set f zeros) :: R) := by
  have hi : isF fr.length f = true := by simp only [isF, decide_eq_true_eq]; omega
  have hts : (po.set f ((w : Int), false)).flatMap tnV = po.flatMap tnV := by
    have := tn_same (po := po) (i := f) (v := (w : Int)) hf
    rwa [ha] at this
  refine spec_body Tryz.func80 Tryz.ntmps80 rfl rfl ?_
  refine x_seq (x_region (s_val rfl (v_assign rfl) (x_nil (n_then (x_seq (x_seq ?_))))))
  refine run_rpoN (pb := pb) (by omega) fun g c g2 c2 sp sp2 h1 h2 h3 k1 k2 k3 => ?_
  refine x_region (s_val rfl (v_move rfl) (s_val rfl (v_nilCheck rfl) ?_))
  refine s_val rfl (v_fieldAddr rfl Tryz.underlying344 rfl Tryz.sizeOf104 rfl (by first | exact Nat.zero_add _ | rfl)) ?_
  refine s_val rfl (v_load Tryz.isAgg104 rfl (cell_own rfl)) ?_
  refine s_val rfl (v_move rfl) (s_do rfl (d_call1 Tryz.call192 rfl (rfIs_spec W0 _ qs fr f)) ?_)
  rintro _ B_ ⟨rfl, hB_⟩
  obtain rfl := hB_.symm
  refine s_val rfl (v_not rfl) (s_val rfl (v_move rfl) ?_)
  refine s_or rfl rfl rfl ?_ ?_
  · intro g1_8
    exact absurd g1_8 (by simp [hi])
  · intro g1_8
    refine s_val rfl (v_move rfl) (s_yes rfl rfl (s_val rfl (v_lss rfl rfl) (s_val rfl (v_pick_f rfl rfl) (s_val rfl (v_move rfl) ?_))))
    refine s_or rfl rfl rfl ?_ ?_
    · intro g1_12
      omega
    · intro g1_12
      refine s_val rfl (v_move rfl) (s_yes rfl rfl (s_val rfl (v_geq rfl rfl) (s_val rfl (v_pick_f rfl rfl) (x_nil (n_then ?_)))))
      refine x_if rfl ?_ ?_
      · intro c1
        omega
      · intro c1
        refine x_skip (n_then (x_seq (x_seq (x_region (s_val rfl (v_move rfl) (s_val rfl (v_nilCheck rfl) ?_))))))
        refine s_val rfl (v_fieldAddr rfl Tryz.underlying344 rfl Tryz.sizeOf37 rfl (by first | exact Nat.zero_add _ | rfl)) ?_
        refine s_val rfl (v_load Tryz.isAgg37 rfl (cell_own rfl)) ?_
        refine s_val rfl (v_move rfl) ?_
        refine s_val rfl (v_idx Tryz.underlying37 Tryz.sizeOf3 rfl rfl rfl hf (by first | exact Nat.zero_add _ | rfl)) ?_
        refine s_val rfl (v_load Tryz.isAgg3 rfl (cell_own (wh_get hf))) ?_
        refine s_val rfl (v_geq rfl rfl) (x_nil (n_then ?_))
        refine x_if rfl ?_ ?_
        · intro c3
          exact absurd c3 (by rw [ha]; decide)
        · intro c3
          refine x_skip (n_then (x_seq (x_region (s_val rfl (v_move rfl) (s_val rfl (v_nilCheck rfl) ?_)))))
          refine s_val rfl (v_fieldAddr rfl Tryz.underlying344 rfl Tryz.sizeOf37 rfl (by first | exact Nat.zero_add _ | rfl)) ?_
          refine s_val rfl (v_load Tryz.isAgg37 rfl (cell_own rfl)) ?_
          refine s_val rfl (v_move rfl) (s_val rfl (v_move rfl) ?_)
          refine s_val rfl (v_idx Tryz.underlying37 Tryz.sizeOf3 rfl rfl rfl hf (by first | exact Nat.zero_add _ | rfl)) ?_
          refine s_do0 (d_store Tryz.sizeOf3 rfl rfl rfl (wh_bd hf) (wh_set (t := false) hf)) ?_
          rintro _ _ rfl
          refine x_nil (n_then (x_seq (x_region (s_val rfl (v_move rfl) (s_val rfl (v_nilCheck rfl) ?_)))))
          refine s_val rfl (v_fieldAddr rfl Tryz.underlying344 rfl Tryz.sizeOf104 rfl (by first | exact Nat.zero_add _ | rfl)) ?_
          refine s_val rfl (v_load Tryz.isAgg104 rfl (cell_own rfl)) ?_
          refine s_val rfl (v_move rfl) (s_do rfl (d_call1 Tryz.call193 rfl (rfClear_spec W0 _ qs fr f hff)) ?_)
          rintro _ B_ ⟨rfl, hB_⟩
          obtain rfl := hB_.symm
          refine x_nil (n_then (x_seq (x_region (s_val rfl (v_assign rfl) (x_nil (n_then (x_ret (x_done (.inl rfl) (.cons (r_tmp rfl) .nil) ?_))))))))
          exact ⟨_, ⟨rfl, rfl⟩, ent_rpoN (by simp) (by simp) rfl hts.symm h1 h2 (by rw [List.length_append, wh_len, List.length_set, ← wh_len, ← List.length_append]; exact h3) k1 k2 k3⟩
def lfN (po : Po) (w : Int) (k : Nat) : Nat := ((List.range k).filter fun f => decide (poA po f = (w, false))).length
theorem lfN_all (po : Po) (w : Nat) : lfN po w po.length = (fre po w).length := by
  rw [lfN, fre]; congr 2; funext f; rw [Bool.eq_iff_iff, decide_eq_true_iff, beq_iff_eq]
theorem lfN_succ (po : Po) (w : Int) (k : Nat) : lfN po w (k + 1) = lfN po w k + if poA po k = (w, false) then 1 else 0 := by
  rw [lfN, List.range_succ, List.filter_append, List.length_append, lfN]
  congr 1
  by_cases h : poA po k = (w, false)
  · simp [h]
  · simp [h]
theorem lfN_le (po : Po) (w : Int) (k : Nat) : lfN po w k ≤ k := by
  have := List.length_filter_le (fun f => decide (poA po f = (w, false))) (List.range k)
  rwa [List.length_range] at this
theorem rpoLeft_spec (W0 : World) (R : List HP) (pb qs : Nat) (po : Po) (w : Nat) (h0 : 0 < po.length) (h32 : po.length ≤ 32) :
    Spec Tryz.prog W0 307 [.pointer (some ⟨pb, 0, none⟩), .int .i64 w] (rpoH pb (qs, po) :: R) (fun v B => v = .int .i64 ((fre po w).length : Nat) ∧ B = rpoH pb (qs, po) :: R) := by
  refine spec_body Tryz.func307 Tryz.ntmps307 rfl rfl ?_
  refine x_seq (x_region (s_val rfl (v_assign rfl) (x_nil (n_then (x_seq (x_region (s_val rfl (v_assign rfl) (x_nil (n_then (x_seq (x_seq (x_region (s_val rfl (v_assign rfl) (x_nil (n_then (x_block ?_))))))))))))))))
  refine x_loop (fun i : Nat => i ≤ po.length) (fun i => [(0, .pointer (some ⟨pb, 0, none⟩)), (1, .int .i64 w), (5, .int .i64 (lfN po w i : Nat)), (6, .int .i64 i)]) (fun _ => rpoH pb (qs, po) :: R) (fun i => po.length - i) 0 ?_ ?_ ?_ ?_
  · exact Nat.zero_le _
  · repeat (first | exact sub_nil | refine sub_cons rfl ?_)
  · exact inferInstance
  · intro i hi
    refine run_rpoN (pb := pb) (by omega) fun g c g2 c2 sp sp2 h1 h2 h3 k1 k2 k3 => ?_
    have hle := lfN_le po w i
    refine x_seq (x_seq (x_region (s_val rfl (v_move rfl) (s_val rfl (v_move rfl) (s_val rfl (v_nilCheck rfl) ?_)))))
    refine s_val rfl (v_fieldAddr rfl Tryz.underlying344 rfl Tryz.sizeOf37 rfl (by first | exact Nat.zero_add _ | rfl)) ?_
    refine s_val rfl (v_load Tryz.isAgg37 rfl (cell_own rfl)) ?_
    refine s_val rfl (v_len_slice Tryz.underlying37 rfl) (s_val rfl (v_lss rfl rfl) (s_val rfl (v_move rfl) ?_))
    refine s_and rfl rfl rfl ?_ ?_
    · intro g3_8
      refine s_val rfl (v_move rfl) (s_yes rfl rfl (s_val rfl (v_move rfl) (s_yes rfl rfl (s_val rfl (v_nilCheck rfl) (s_yes rfl rfl ?_)))))
      refine s_val rfl (v_fieldAddr rfl Tryz.underlying344 rfl Tryz.sizeOf342 rfl (by first | exact Nat.zero_add _ | rfl)) ?_
      refine s_yes rfl rfl (s_val rfl (v_load Tryz.isAgg342 rfl (cell_own rfl)) ?_)
      refine s_yes rfl rfl (s_val rfl (v_len_slice Tryz.underlying342 rfl) (s_yes rfl rfl (s_val rfl (v_lss rfl rfl) (s_val rfl (v_pick_t rfl rfl) (x_nil (n_then ?_))))))
      refine x_if rfl ?_ ?_
      · intro c3
        refine x_skip (n_then ?_)
        refine x_cut (fun n : Nat => n = lfN po w (i + 1) ∧ i < po.length) (fun n => [(0, .pointer (some ⟨pb, 0, none⟩)), (1, .int .i64 w), (5, .int .i64 n), (6, .int .i64 i)]) (fun _ => rpoH pb (qs, po) :: R) ?_ ?_
        · skip
          refine x_block (x_seq ?_)
          have hi1 : i < po.length := by omega
          have hs := lfN_succ po w i
          refine x_region (s_val rfl (v_move rfl) (s_val rfl (v_nilCheck rfl) ?_))
          refine s_val rfl (v_fieldAddr rfl Tryz.underlying344 rfl Tryz.sizeOf37 rfl (by first | exact Nat.zero_add _ | rfl)) ?_
          refine s_val rfl (v_load Tryz.isAgg37 rfl (cell_own rfl)) ?_
          refine s_val rfl (v_move rfl) ?_
          refine s_val rfl (v_idx Tryz.underlying37 Tryz.sizeOf3 rfl rfl rfl hi1 (by first | exact Nat.zero_add _ | rfl)) ?_
          refine s_val rfl (v_load Tryz.isAgg3 rfl (cell_own (wh_get hi1))) ?_
          refine s_val rfl (v_move rfl) (s_val rfl (v_eql rfl rfl) (s_val rfl (v_move rfl) ?_))
          refine s_and rfl rfl rfl ?_ ?_
          · intro g5_10
            refine s_val rfl (v_move rfl) (s_yes rfl rfl (s_val rfl (v_geq rfl rfl) (s_val rfl (v_pick_t rfl rfl) (s_val rfl (v_move rfl) ?_))))
            refine s_and rfl rfl rfl ?_ ?_
            · intro g5_14
              refine s_val rfl (v_move rfl) (s_yes rfl rfl (s_val rfl (v_nilCheck rfl) (s_yes rfl rfl ?_)))
              refine s_val rfl (v_fieldAddr rfl Tryz.underlying344 rfl Tryz.sizeOf342 rfl (by first | exact Nat.zero_add _ | rfl)) ?_
              refine s_yes rfl rfl (s_val rfl (v_load Tryz.isAgg342 rfl (cell_own rfl)) ?_)
              refine s_yes rfl rfl (s_val rfl (v_move rfl) (s_yes rfl rfl ?_))
              refine s_val rfl (v_idx Tryz.underlying342 Tryz.sizeOf4 rfl rfl rfl hi1 (by first | exact Nat.zero_add _ | rfl)) ?_
              refine s_yes rfl rfl (s_val rfl (v_load Tryz.isAgg4 rfl (cell_own (tn_get hi1))) ?_)
              refine s_yes rfl rfl (s_val rfl (v_not rfl) (s_val rfl (v_pick_t rfl rfl) (x_nil (n_then ?_))))
              refine x_if rfl ?_ ?_
              · intro c5
                refine x_region (s_val rfl (v_move rfl) ?_)
                refine s_val rfl (v_add rfl rfl (w64 (by omega))) ?_
                refine s_val rfl (v_assign rfl) (x_nil (n_block (n_then ?_)))
                refine mid_intro (lfN po w i + 1) ?_ ?_ ?_
                · refine ⟨?_, hi1⟩
                  rw [hs, if_pos (by rw [show poA po i = ((poA po i).1, (poA po i).2) from rfl]; first | (congr 1; simp_all; done) | (rw [Prod.mk.injEq]; simp_all))]
                · repeat (first | exact sub_nil | refine sub_cons rfl ?_)
                · exact ent_rpoN rfl rfl rfl rfl h1 h2 h3 k1 k2 k3
              · intro c5
                refine x_skip (n_block (n_then ?_))
                refine mid_intro (lfN po w i) ?_ ?_ ?_
                · refine ⟨?_, hi1⟩
                  rw [hs, if_neg (by intro q; have q1 := congrArg Prod.fst q; have q2 := congrArg Prod.snd q; simp_all)]; rfl
                · repeat (first | exact sub_nil | refine sub_cons rfl ?_)
                · exact ent_rpoN rfl rfl rfl rfl h1 h2 h3 k1 k2 k3
            · intro g5_14
              refine s_no rfl rfl rfl rfl (s_no rfl rfl rfl rfl (s_no rfl rfl rfl rfl (s_no rfl rfl rfl rfl (s_no rfl rfl rfl rfl (s_no rfl rfl rfl rfl (s_no rfl rfl rfl rfl (s_val rfl (v_pick_f rfl rfl) (x_nil (n_then (x_iff rfl (x_skip (n_block (n_then ?_)))))))))))))
              refine mid_intro (lfN po w i) ?_ ?_ ?_
              · refine ⟨?_, hi1⟩
                rw [hs, if_neg (by intro q; have q1 := congrArg Prod.fst q; have q2 := congrArg Prod.snd q; simp_all)]; rfl
              · repeat (first | exact sub_nil | refine sub_cons rfl ?_)
              · exact ent_rpoN rfl rfl rfl rfl h1 h2 h3 k1 k2 k3
          · intro g5_10
            refine s_no rfl rfl rfl rfl (s_val rfl (v_pick_f rfl rfl) (s_val rfl (v_move rfl) (s_no rfl rfl rfl rfl (s_no rfl rfl rfl rfl (s_no rfl rfl rfl rfl (s_no rfl rfl rfl rfl (s_no rfl rfl rfl rfl (s_no rfl rfl rfl rfl (s_no rfl rfl rfl rfl (s_no rfl rfl rfl rfl (s_val rfl (v_pick_f rfl rfl) (x_nil (n_then (x_iff rfl (x_skip (n_block (n_then ?_)))))))))))))))))
            refine mid_intro (lfN po w i) ?_ ?_ ?_
            · refine ⟨?_, hi1⟩
              rw [hs, if_neg (by intro q; have q1 := congrArg Prod.fst q; have q2 := congrArg Prod.snd q; simp_all)]; rfl
            · repeat (first | exact sub_nil | refine sub_cons rfl ?_)
            · exact ent_rpoN rfl rfl rfl rfl h1 h2 h3 k1 k2 k3
        · intro n ⟨hn, hi1⟩
          subst hn
          refine x_region (s_val rfl (v_move rfl) ?_)
          refine s_val rfl (v_add rfl rfl (w64 (by omega))) ?_
          refine s_val rfl (v_assign rfl) (x_nil (n_then ?_))
          refine inv_intro (i + 1) ?_ ?_ ?_ ?_
          · omega
          · omega
          · repeat (first | exact sub_nil | refine sub_cons rfl ?_)
          · exact inferInstance
      · intro c3
        refine x_exit (e_then (e_then (e_block (n_then (x_seq (x_region (s_val rfl (v_move rfl) (s_val rfl (v_assign rfl) (x_nil (n_then (x_ret (x_done (.inl rfl) (.cons (r_tmp rfl) .nil) ?_))))))))))))
        obtain rfl : i = po.length := by omega
        rw [lfN_all]
        exact ⟨_, ⟨rfl, rfl⟩, ent_rpoN rfl rfl rfl rfl h1 h2 h3 k1 k2 k3⟩
    · intro g3_8
      refine s_no rfl rfl rfl rfl (s_no rfl rfl rfl rfl (s_no rfl rfl rfl rfl (s_no rfl rfl rfl rfl (s_no rfl rfl rfl rfl (s_no rfl rfl rfl rfl (s_val rfl (v_pick_f rfl rfl) (x_nil (n_then (x_iff rfl (x_exit (e_then (e_then (e_block (n_then (x_seq (x_region (s_val rfl (v_move rfl) (s_val rfl (v_assign rfl) (x_nil (n_then (x_ret (x_done (.inl rfl) (.cons (r_tmp rfl) .nil) ?_))))))))))))))))))))))
      obtain rfl : i = po.length := by omega
      rw [lfN_all]
      exact ⟨_, ⟨rfl, rfl⟩, ent_rpoN rfl rfl rfl rfl h1 h2 h3 k1 k2 k3⟩
theorem rpoTake_spec (W0 : World) (R : List HP) (pb qs : Nat) (po : Po) (w f : Nat) (l : List Nat) (hw : w < 16) (h32 : po.length ≤ 32) (he : fre po w = f :: l) :
    Spec Tryz.prog W0 309 [.pointer (some ⟨pb, 0, none⟩), .int .i64 w] (rpoH pb (qs, po) :: R)
      (fun v B => v = .tuple #[.int .i64 f, .int .i64 0] ∧ B = rpoH pb (qs, po.set f ((w : Int), true)) :: R) := by
  have hf := mem_fre.1 (show f ∈ fre po w by rw [he]; simp)
  have hlow : ∀ j, j < f → poA po j ≠ ((w : Int), false) := fun j hj q => by
    have hm := mem_fre.2 ⟨by have := hf.1; omega, q⟩
    have hs := fre_sort po w
    rw [he] at hm hs
    rw [List.pairwise_cons] at hs
    rcases List.mem_cons.1 hm with k | k
    · omega
    · have := hs.1 j k; omega
  have hws : (po.set f ((w : Int), true)).flatMap whV = po.flatMap whV := by
    have := wh_same (po := po) (i := f) (t := true) hf.1
    rwa [hf.2] at this
  refine spec_body Tryz.func309 Tryz.ntmps309 rfl rfl ?_
  refine x_seq (x_region (s_val rfl (v_assign rfl) (s_val rfl (v_assign rfl) (x_nil (n_then (x_seq (x_seq (x_region (s_val rfl (v_move rfl) (s_val rfl (v_lss rfl rfl) (s_val rfl (v_move rfl) ?_)))))))))))
  refine s_or rfl rfl rfl ?_ ?_
  · intro g1_3
    omega
  · intro g1_3
    refine s_val rfl (v_move rfl) (s_yes rfl rfl (s_val rfl (v_geq rfl rfl) (s_val rfl (v_pick_f rfl rfl) (x_nil (n_then ?_)))))
    refine x_if rfl ?_ ?_
    · intro c1
      omega
    · intro c1
      refine x_skip (n_then (x_seq (x_seq (x_region (s_val rfl (v_assign rfl) (x_nil (n_then (x_block ?_))))))))
      refine x_loop (fun i : Nat => i ≤ f) (fun i => [(0, .pointer (some ⟨pb, 0, none⟩)), (1, .int .i64 w), (6, .int .i64 i)]) (fun _ => rpoH pb (qs, po) :: R) (fun i => po.length - i) 0 ?_ ?_ ?_ ?_
      · exact Nat.zero_le _
      · repeat (first | exact sub_nil | refine sub_cons rfl ?_)
      · exact inferInstance
      · intro i hi
        have hfl := hf.1
        refine run_rpoN (pb := pb) (by omega) fun g c g2 c2 sp sp2 h1 h2 h3 k1 k2 k3 => ?_
        refine x_seq (x_seq (x_region (s_val rfl (v_move rfl) (s_val rfl (v_move rfl) (s_val rfl (v_nilCheck rfl) ?_)))))
        refine s_val rfl (v_fieldAddr rfl Tryz.underlying344 rfl Tryz.sizeOf37 rfl (by first | exact Nat.zero_add _ | rfl)) ?_
        refine s_val rfl (v_load Tryz.isAgg37 rfl (cell_own rfl)) ?_
        refine s_val rfl (v_len_slice Tryz.underlying37 rfl) (s_val rfl (v_lss rfl rfl) (s_val rfl (v_move rfl) ?_))
        refine s_and rfl rfl rfl ?_ ?_
        · intro g4_8
          refine s_val rfl (v_move rfl) (s_yes rfl rfl (s_val rfl (v_move rfl) (s_yes rfl rfl (s_val rfl (v_nilCheck rfl) (s_yes rfl rfl ?_)))))
          refine s_val rfl (v_fieldAddr rfl Tryz.underlying344 rfl Tryz.sizeOf342 rfl (by first | exact Nat.zero_add _ | rfl)) ?_
          refine s_yes rfl rfl (s_val rfl (v_load Tryz.isAgg342 rfl (cell_own rfl)) ?_)
          refine s_yes rfl rfl (s_val rfl (v_len_slice Tryz.underlying342 rfl) (s_yes rfl rfl (s_val rfl (v_lss rfl rfl) (s_val rfl (v_pick_t rfl rfl) (x_nil (n_then ?_))))))
          refine x_if rfl ?_ ?_
          · intro c4
            refine x_skip (n_then (x_seq (x_block (x_seq ?_))))
            have hi1 : i < po.length := by omega
            refine x_region (s_val rfl (v_move rfl) (s_val rfl (v_nilCheck rfl) ?_))
            refine s_val rfl (v_fieldAddr rfl Tryz.underlying344 rfl Tryz.sizeOf37 rfl (by first | exact Nat.zero_add _ | rfl)) ?_
            refine s_val rfl (v_load Tryz.isAgg37 rfl (cell_own rfl)) ?_
            refine s_val rfl (v_move rfl) ?_
            refine s_val rfl (v_idx Tryz.underlying37 Tryz.sizeOf3 rfl rfl rfl hi1 (by first | exact Nat.zero_add _ | rfl)) ?_
            refine s_val rfl (v_load Tryz.isAgg3 rfl (cell_own (wh_get hi1))) ?_
            refine s_val rfl (v_move rfl) (s_val rfl (v_eql rfl rfl) (s_val rfl (v_move rfl) ?_))
            refine s_and rfl rfl rfl ?_ ?_
            · intro g6_10
              refine s_val rfl (v_move rfl) (s_yes rfl rfl (s_val rfl (v_nilCheck rfl) (s_yes rfl rfl ?_)))
              refine s_val rfl (v_fieldAddr rfl Tryz.underlying344 rfl Tryz.sizeOf342 rfl (by first | exact Nat.zero_add _ | rfl)) ?_
              refine s_yes rfl rfl (s_val rfl (v_load Tryz.isAgg342 rfl (cell_own rfl)) ?_)
              refine s_yes rfl rfl (s_val rfl (v_move rfl) (s_yes rfl rfl ?_))
              refine s_val rfl (v_idx Tryz.underlying342 Tryz.sizeOf4 rfl rfl rfl hi1 (by first | exact Nat.zero_add _ | rfl)) ?_
              refine s_yes rfl rfl (s_val rfl (v_load Tryz.isAgg4 rfl (cell_own (tn_get hi1))) ?_)
              refine s_yes rfl rfl (s_val rfl (v_not rfl) (s_val rfl (v_pick_t rfl rfl) (x_nil (n_then ?_))))
              refine x_if rfl ?_ ?_
              · intro c6
                refine x_seq ?_
                have hif : i = f := by
                  rcases Nat.lt_or_ge i f with q | q
                  · exact absurd (by rw [Prod.ext_iff]; constructor <;> simp_all) (hlow i q)
                  · omega
                subst hif
                refine x_region (s_val rfl (v_move rfl) (s_val rfl (v_nilCheck rfl) ?_))
                refine s_val rfl (v_fieldAddr rfl Tryz.underlying344 rfl Tryz.sizeOf342 rfl (by first | exact Nat.zero_add _ | rfl)) ?_
                refine s_val rfl (v_load Tryz.isAgg342 rfl (cell_own rfl)) ?_
                refine s_val rfl (v_move rfl) ?_
                refine s_val rfl (v_idx Tryz.underlying342 Tryz.sizeOf4 rfl rfl rfl hi1 (by first | exact Nat.zero_add _ | rfl)) ?_
                refine s_do0 (d_store Tryz.sizeOf4 rfl rfl rfl (tn_bd hi1) (tn_set (v := (w : Int)) hi1)) ?_
                rintro _ _ rfl
                refine x_nil (n_then (x_seq (x_region (s_val rfl (v_move rfl) (s_val rfl (v_assign rfl) (s_val rfl (v_assign rfl) (x_nil (n_then (x_ret (r_block (r_then (r_then (r_block (r_then (x_done (.inl rfl) (.cons (r_tmp rfl) (.cons (r_tmp rfl) .nil)) ?_)))))))))))))))
                exact ⟨_, ⟨rfl, rfl⟩, ent_rpoN (by simp) (by simp) hws.symm rfl h1 h2 h3 k1 k2 (by rw [List.length_append, tn_len, List.length_set, ← tn_len, ← List.length_append]; exact k3)⟩
              · intro c6
                refine x_skip (n_block (n_then ?_))
                have hne : i ≠ f := by
                  intro q; subst q
                  have q1 := congrArg Prod.fst hf.2
                  have q2 := congrArg Prod.snd hf.2
                  simp_all
                refine x_region (s_val rfl (v_move rfl) ?_)
                refine s_val rfl (v_add rfl rfl (w64 (by omega))) ?_
                refine s_val rfl (v_assign rfl) (x_nil (n_then ?_))
                refine inv_intro (i + 1) ?_ ?_ ?_ ?_
                · show i + 1 ≤ f; omega
                · omega
                · repeat (first | exact sub_nil | refine sub_cons rfl ?_)
                · exact ent_rpoN rfl rfl rfl rfl h1 h2 h3 k1 k2 k3
            · intro g6_10
              refine s_no rfl rfl rfl rfl (s_no rfl rfl rfl rfl (s_no rfl rfl rfl rfl (s_no rfl rfl rfl rfl (s_no rfl rfl rfl rfl (s_no rfl rfl rfl rfl (s_no rfl rfl rfl rfl (s_val rfl (v_pick_f rfl rfl) (x_nil (n_then (x_iff rfl (x_skip (n_block (n_then ?_)))))))))))))
              have hne : i ≠ f := by
                intro q; subst q
                have q1 := congrArg Prod.fst hf.2
                have q2 := congrArg Prod.snd hf.2
                simp_all
              refine x_region (s_val rfl (v_move rfl) ?_)
              refine s_val rfl (v_add rfl rfl (w64 (by omega))) ?_
              refine s_val rfl (v_assign rfl) (x_nil (n_then ?_))
              refine inv_intro (i + 1) ?_ ?_ ?_ ?_
              · show i + 1 ≤ f; omega
              · omega
              · repeat (first | exact sub_nil | refine sub_cons rfl ?_)
              · exact ent_rpoN rfl rfl rfl rfl h1 h2 h3 k1 k2 k3
          · intro c4
            refine x_exit (e_then (e_then (e_block (n_then (x_seq (x_region (s_val rfl (v_assign rfl) (s_val rfl (v_assign rfl) (x_nil (n_then (x_ret (x_done (.inl rfl) (.cons (r_tmp rfl) (.cons (r_tmp rfl) .nil)) ?_))))))))))))
            exfalso; omega
        · intro g4_8
          refine s_no rfl rfl rfl rfl (s_no rfl rfl rfl rfl (s_no rfl rfl rfl rfl (s_no rfl rfl rfl rfl (s_no rfl rfl rfl rfl (s_no rfl rfl rfl rfl (s_val rfl (v_pick_f rfl rfl) (x_nil (n_then (x_iff rfl (x_exit (e_then (e_then (e_block (n_then (x_seq (x_region (s_val rfl (v_assign rfl) (s_val rfl (v_assign rfl) (x_nil (n_then (x_ret (x_done (.inl rfl) (.cons (r_tmp rfl) (.cons (r_tmp rfl) .nil)) ?_))))))))))))))))))))))
          exfalso; omega
end Go.Proofs.YtnidndllknffgaaGreat
namespace Go.Proofs.YtnidndllknffgaaGreat
open Go.RowKit
set_option linter.unusedSimpArgs false
set_option linter.unusedVariables false
set_option maxRecDepth 20000
theorem riCut_spec (W0 : World) (R : List HP) (a : Option Addr) (c p : Nat) (ws : List Nat) (h1 : 1 ≤ p) (hp : p ≤ 8) (hn : ws.length < 9223372036854775808) (hc : ws.length ≤ c) :
    Spec Tryz.prog W0 308 [.slice a ws.length c, .int .i64 p] R (fun v B => v = .slice a (cutW ws p).length c ∧ B = R) := by
  have hl := cutW_len ws p
  refine spec_body Tryz.func308 Tryz.ntmps308 rfl rfl ?_
  refine x_seq (x_region (s_val rfl (v_assign rfl) (x_nil (n_then (x_seq (x_seq (x_region (s_val rfl (v_move rfl) (s_val rfl (v_lss rfl rfl) (x_nil (n_then ?_)))))))))))
  refine x_if rfl ?_ ?_
  · intro c1
    omega
  · intro c1
    refine x_skip (n_then (x_seq (x_region (s_val rfl (v_move rfl) (s_val rfl (v_min rfl rfl (iteMin8 hp)) ?_)))))
    refine s_val rfl (v_mul rfl rfl (by rw [w64 (by omega)]; omega : IntKind.wrap .i64 (16 * (p : Int)) = ((16 * p : Nat) : Int))) ?_
    refine s_val rfl (v_assign rfl) (x_nil (n_then (x_seq (x_region (s_val rfl (v_move rfl) (s_val rfl (v_move rfl) (s_val rfl (v_move rfl) (s_val rfl (v_len_slice Tryz.underlying98 rfl) (s_val rfl (v_min rfl rfl (iteMin (16 * p) ws.length)) ?_)))))))))
    refine s_val rfl (v_sliceH Tryz.underlying98 Tryz.sizeOf42 rfl rfl (h := min (16 * p) ws.length) rfl (by omega)) ?_
    refine s_val rfl (v_assign rfl) (x_nil (n_then (x_ret (x_done (.inl rfl) (.cons (r_tmp rfl) .nil) ?_))))
    rw [hl]
    exact ⟨_, ⟨rfl, rfl⟩, inferInstance⟩
theorem pgW_get {ws : List Nat} {i k : Nat} (hk : k < 16) : (pgW ws i)[k]? = ws[16 * i + k]? := by
  rw [pgW, List.getElem?_take_of_lt hk, List.getElem?_drop]
theorem wrW_take {f : Nat} {ws : List Nat} {i k : Nat} (hk : k < 16) (fr : List Frm) : wrW f ((pgW ws i).take (k + 1)) 0 fr = match ws[16 * i + k]? with | some y => svF (wrW f ((pgW ws i).take k) 0 fr) f (4 * k : Nat) 4 y | none => wrW f ((pgW ws i).take k) 0 fr := by
  have hg := pgW_get (ws := ws) (i := i) hk
  cases e : ws[16 * i + k]? with
  | none =>
    rw [e] at hg
    have := List.getElem?_eq_none_iff.1 hg
    rw [List.take_of_length_le (by omega), List.take_of_length_le this]
  | some y =>
    rw [e] at hg
    obtain ⟨hlt, hy⟩ := List.getElem?_eq_some_iff.1 hg
    rw [List.take_succ_eq_append_getElem hlt, hy, wrW_snoc, List.length_take, Nat.min_eq_left (by omega), Nat.zero_add]
theorem riLay_spec (W0 : World) (R : List HP) (pb qs pm who n : Nat) (x : Im) (h : ImOk x) (h0 : 0 < x.fr.length) (a : Option Addr) (c : Nat) (ws : List Nat) (hw : who < 16) (h1 : 1 ≤ n) (h8 : n ≤ 8) (hf : pgFree x.pg 0 8) (hl : n ≤ (fre x.po who).length)
    (hs : ∀ A, Ent A R → SlA (OwnP W0 A) a 1 wV1 ws) (hb : ∀ y ∈ ws, y < 4294967296) (hn : ws.length < 9223372036854775808) (hc : ws.length ≤ c) :
    Spec Tryz.prog W0 214 [.pointer (some ⟨pb, 0, none⟩), .pointer (some ⟨qs, 0, none⟩), .pointer (some ⟨pm, 0, none⟩), .int .i64 who, .int .i64 n, .slice a ws.length c] (rpoH pb (qs, x.po) :: rstoH qs x.fr :: pt pm (rgO x.pg) :: R)
      (fun v B => v = .int .i64 0 ∧ B = rpoH pb (qs, (layI who (cutW ws n) n x).po) :: rstoH qs (layI who (cutW ws n) n x).fr :: pt pm (rgO (layI who (cutW ws n) n x).pg) :: R) := by
  have hlen := cutW_len ws n
  have hle := h.len
  have hcb : ∀ y ∈ cutW ws n, y < 4294967296 := fun y hy => hb y (List.mem_of_mem_take hy)
  have hok : ∀ i, ImOk (layI who (cutW ws n) i x) := fun i => layI_ok hw h
  have hcs : ∀ A, Ent A R → SlA (OwnP W0 A) a 1 wV1 (cutW ws n) := fun A hA => (hs A hA).take _
  have hp32 : ∀ i, (layI who (cutW ws n) i x).po.length ≤ 32 := fun i => (hok i).po.len
  refine spec_body Tryz.func214 Tryz.ntmps214 rfl rfl ?_
  refine x_seq (x_region (s_val rfl (v_assign rfl) (x_nil (n_then (x_seq (x_seq (x_region (s_val rfl (v_move rfl) (s_val rfl (v_lss rfl rfl) (s_val rfl (v_move rfl) ?_))))))))))
  refine s_or rfl rfl rfl ?_ ?_
  · intro g1_3
    omega
  · intro g1_3
    refine s_val rfl (v_move rfl) (s_yes rfl rfl (s_val rfl (v_gtr rfl rfl) (s_val rfl (v_pick_f rfl rfl) (s_val rfl (v_move rfl) ?_))))
    refine s_or rfl rfl rfl ?_ ?_
    · intro g1_7
      omega
    · intro g1_7
      refine s_val rfl (v_move rfl) (s_yes rfl rfl (s_val rfl (v_lss rfl rfl) (s_val rfl (v_pick_f rfl rfl) (s_val rfl (v_move rfl) ?_))))
      refine s_or rfl rfl rfl ?_ ?_
      · intro g1_11
        omega
      · intro g1_11
        refine s_val rfl (v_move rfl) (s_yes rfl rfl (s_val rfl (v_geq rfl rfl) (s_val rfl (v_pick_f rfl rfl) (x_nil (n_then ?_)))))
        refine x_if rfl ?_ ?_
        · intro c1
          omega
        · intro c1
          refine x_skip (n_then (x_seq (x_seq (x_region (s_val rfl (v_assign rfl) (x_nil (n_then (x_block ?_))))))))
          refine x_loop (fun i : Nat => i ≤ n) (fun i => [(0, .pointer (some ⟨pb, 0, none⟩)), (1, .pointer (some ⟨qs, 0, none⟩)), (2, .pointer (some ⟨pm, 0, none⟩)), (3, .int .i64 who), (4, .int .i64 n), (5, .slice a ws.length c), (13, .int .i64 i)]) (fun i => rpoH pb (qs, x.po) :: rstoH qs x.fr :: pt pm (rgO x.pg) :: R) (fun i => n - i) 0 ?_ ?_ ?_ ?_
          · exact Nat.zero_le _
          · repeat (first | exact sub_nil | refine sub_cons rfl ?_)
          · exact inferInstance
          · intro i hi
            refine x_seq (x_seq (x_region (s_val rfl (v_move rfl) (s_val rfl (v_move rfl) (s_val rfl (v_lss rfl rfl) (x_nil (n_then ?_)))))))
            refine x_if rfl ?_ ?_
            · intro c4
              refine x_skip (n_then (x_seq (x_block (x_seq (x_region (s_val rfl (v_move rfl) (s_val rfl (v_move rfl) (s_do rfl (d_call1 Tryz.call306 rfl (rgGet_spec W0 _ pm x.pg h.pg i)) ?_))))))))
              rintro _ B_ ⟨rfl, hB_⟩
              obtain rfl := hB_.symm
              refine s_val rfl (v_move rfl) (s_val rfl (v_extract rfl rfl) (s_val rfl (v_extract rfl rfl) (s_do rfl (d_allocA Tryz.zeroValue238) ?_)))
              rintro _ _ ⟨bx, rfl, rfl⟩
              refine s_do0 (d_storeAll Tryz.sizeOf238 rfl rfl rfl rfl rfl) ?_
              rintro _ _ rfl
              refine s_val rfl (v_assign rfl) (x_nil (n_then (x_seq (x_region (s_val rfl (v_move rfl) (x_nil (n_then ?_)))))))
              refine x_if rfl ?_ ?_
              · intro c7
                exact absurd c7 (by rw [hf i (Nat.zero_le _) (by omega)]; decide)
              · intro c7
                refine x_skip (n_block (n_then (x_region (s_val rfl (v_move rfl) ?_))))
                refine s_val rfl (v_add rfl rfl (by first | exact w64 (by omega) | rfl)) ?_
                refine s_val rfl (v_assign rfl) (x_nil (n_then ?_))
                refine inv_intro (i + 1) ?_ ?_ ?_ ?_
                · omega
                · omega
                · repeat (first | exact sub_nil | refine sub_cons rfl ?_)
                · exact inferInstance
            · intro c4
              refine x_exit (e_then (e_then (e_block (n_then (x_seq (x_seq (x_region (s_val rfl (v_move rfl) (s_val rfl (v_move rfl) ?_)))))))))
              refine s_do rfl (d_call1 Tryz.call307 rfl (rpoLeft_spec W0 _ pb qs x.po who (by omega) (hp32 0))) ?_
              rintro _ B_ ⟨rfl, hB_⟩
              obtain rfl := hB_.symm
              refine s_val rfl (v_move rfl) (s_val rfl (v_lss rfl rfl) (x_nil (n_then ?_)))
              refine x_if rfl ?_ ?_
              · intro c9
                omega
              · intro c9
                refine x_skip (n_then (x_seq (x_region (s_val rfl (v_move rfl) (s_val rfl (v_move rfl) (s_do rfl (d_call Tryz.call308 rfl (riCut_spec W0 _ a c n ws h1 h8 hn hc)) ?_))))))
                rintro _ B_ ⟨rfl, hB_⟩
                obtain rfl := hB_.symm
                refine s_val rfl (v_assign rfl) (x_nil (n_then (x_seq (x_seq (x_region (s_val rfl (v_assign rfl) (x_nil (n_then (x_block ?_)))))))))
                refine x_loop (fun i : Nat => i ≤ n) (fun i => [(0, .pointer (some ⟨pb, 0, none⟩)), (1, .pointer (some ⟨qs, 0, none⟩)), (2, .pointer (some ⟨pm, 0, none⟩)), (3, .int .i64 who), (4, .int .i64 n), (16, .slice a (cutW ws n).length c), (17, .int .i64 i)]) (fun i => rpoH pb (qs, (layI who (cutW ws n) i x).po) :: rstoH qs (layI who (cutW ws n) i x).fr :: pt pm (rgO (layI who (cutW ws n) i x).pg) :: R) (fun i => n - i) 0 ?_ ?_ ?_ ?_
                · exact Nat.zero_le _
                · repeat (first | exact sub_nil | refine sub_cons rfl ?_)
                · exact ent_refl
                · intro i hi
                  refine x_seq (x_seq (x_region (s_val rfl (v_move rfl) (s_val rfl (v_move rfl) (s_val rfl (v_lss rfl rfl) (x_nil (n_then ?_)))))))
                  refine x_if rfl ?_ ?_
                  · intro c13
                    refine x_skip (n_then (x_seq (x_block (x_seq ?_))))
                    have hin : i < n := by omega
                    have hfr := layI_fre (who := who) (words := cutW ws n) (x := x) i
                    have hpg := (layI_pg (who := who) (words := cutW ws n) hf h.pg.len i (by omega)).1
                    obtain ⟨f, l, he⟩ : ∃ f l, fre (layI who (cutW ws n) i x).po who = f :: l := by
                      cases e : fre (layI who (cutW ws n) i x).po who with
                      | nil => rw [e] at hfr; simp at hfr; omega
                      | cons f l => exact ⟨f, l, rfl⟩
                    obtain ⟨y, hy⟩ : ∃ y, layI who (cutW ws n) i x = y := ⟨_, rfl⟩
                    have hoki := hok i
                    have hnx : layI who (cutW ws n) (i + 1) x = stepI who (cutW ws n) y i := by rw [layI, hy]
                    have hp32i := hp32 i
                    have hti := hpg i (Nat.le_refl _) (by omega)
                    rw [hy] at he hoki hp32i hti ⊢
                    rw [stepI, he] at hnx
                    dsimp only at hnx
                    have hff := mem_fre.1 (show f ∈ fre y.po who by rw [he]; simp)
                    refine x_region (s_val rfl (v_move rfl) (s_val rfl (v_move rfl) (s_do rfl (d_call1 Tryz.call309 rfl (rpoTake_spec W0 _ pb qs y.po who f l hw hp32i he)) ?_)))
                    rintro _ B_ ⟨rfl, hB_⟩
                    obtain rfl := hB_.symm
                    refine s_val rfl (v_move rfl) (s_val rfl (v_extract rfl rfl) (s_val rfl (v_extract rfl rfl) (s_val rfl (v_assign rfl) (s_val rfl (v_assign rfl) (x_nil (n_then (x_seq (x_region (s_val rfl (v_move rfl) (s_val rfl (v_move rfl) (s_val rfl (v_move rfl) (s_val rfl (v_build Tryz.underlying238 Tryz.zeroValue238 (sized_cons Tryz.sizeOf3 (sized_cons Tryz.sizeOf3 sized_nil)) (fil_scal rfl Tryz.sizeOf3 rfl rfl (Nat.le_of_ble_eq_true rfl) SetL.eq (fil_scal rfl Tryz.sizeOf3 rfl rfl (Nat.le_of_ble_eq_true rfl) SetL.eq fil_nil))) ?_))))))))))))
                    refine s_do rfl (d_call1 Tryz.call97 rfl (rgSet_spec W0 _ pm y.pg hoki.pg i ((f : Int), 3))) ?_
                    rintro _ B_ ⟨rfl, hB_⟩
                    obtain rfl := hB_.symm
                    refine x_nil (n_then (x_seq (x_region (s_val rfl (v_assign rfl) (x_nil (n_then (x_block ?_)))))))
                    refine x_loop (fun k : Nat => k ≤ 16) (fun k => [(0, .pointer (some ⟨pb, 0, none⟩)), (1, .pointer (some ⟨qs, 0, none⟩)), (2, .pointer (some ⟨pm, 0, none⟩)), (3, .int .i64 who), (4, .int .i64 n), (16, .slice a (cutW ws n).length c), (17, .int .i64 i), (18, .int .i64 f), (20, .int .i64 k)]) (fun k => rpoH pb (qs, y.po.set f ((who : Int), true)) :: rstoH qs (wrW f ((pgW (cutW ws n) i).take k) 0 y.fr) :: pt pm (rgO (setP y.pg i ((f : Int), 3))) :: R) (fun k => 16 - k) 0 ?_ ?_ ?_ ?_
                    · exact Nat.zero_le _
                    · repeat (first | exact sub_nil | refine sub_cons rfl ?_)
                    · rw [show wrW f ((pgW (cutW ws n) i).take 0) 0 y.fr = y.fr from rfl]
                      exact inferInstance
                    · intro k hk
                      refine x_seq (x_seq (x_region (s_val rfl (v_move rfl) (s_val rfl (v_lss rfl rfl) (x_nil (n_then ?_))))))
                      refine x_if rfl ?_ ?_
                      · intro c18
                        refine x_skip (n_then ?_)
                        refine x_cut (fun _ : Unit => k < 16) (fun _ => [(0, .pointer (some ⟨pb, 0, none⟩)), (1, .pointer (some ⟨qs, 0, none⟩)), (2, .pointer (some ⟨pm, 0, none⟩)), (3, .int .i64 who), (4, .int .i64 n), (16, .slice a (cutW ws n).length c), (17, .int .i64 i), (18, .int .i64 f), (20, .int .i64 k)]) (fun _ => rpoH pb (qs, y.po.set f ((who : Int), true)) :: rstoH qs (wrW f ((pgW (cutW ws n) i).take (k + 1)) 0 y.fr) :: pt pm (rgO (setP y.pg i ((f : Int), 3))) :: R) ?_ ?_
                        · skip
                          refine x_block (x_seq ?_)
                          have hk1 : k < 16 := by omega
                          have hwt := wrW_take (f := f) (ws := cutW ws n) (i := i) hk1 y.fr
                          refine x_region (s_val rfl (v_move rfl) ?_)
                          refine s_val rfl (v_mul rfl rfl (by rw [w64 (by omega)]; omega : IntKind.wrap .i64 (16 * (i : Int)) = ((16 * i : Nat) : Int))) ?_
                          refine s_val rfl (v_move rfl) ?_
                          refine s_val rfl (v_add rfl rfl (by rw [w64 (by omega)]; omega : IntKind.wrap .i64 (((16 * i : Nat) : Int) + (k : Int)) = ((16 * i + k : Nat) : Int))) ?_
                          refine s_val rfl (v_move rfl) (s_val rfl (v_len_slice Tryz.underlying98 rfl) (s_val rfl (v_lss rfl rfl) (x_nil (n_then ?_))))
                          refine x_if rfl ?_ ?_
                          · intro c20
                            have hlt : 16 * i + k < (cutW ws n).length := by omega
                            obtain ⟨gb, go, hga, hc'⟩ := (hcs (rpoH pb (qs, y.po.set f ((who : Int), true)) :: rstoH qs (wrW f ((pgW (cutW ws n) i).take k) 0 y.fr) :: pt pm (rgO (setP y.pg i ((f : Int), 3))) :: R) inferInstance).at_ hlt
                            obtain ⟨z, hz⟩ : ∃ z, (cutW ws n)[16 * i + k] = z := ⟨_, rfl⟩
                            rw [hz] at hc'
                            have hzb := hcb _ (List.getElem_mem hlt)
                            rw [hz] at hzb
                            obtain ⟨hF, hFl⟩ := wrW_ok (f := f) (l := (pgW (cutW ws n) i).take k) (k := 0) hoki.fr
                            rw [List.getElem?_eq_getElem hlt, hz] at hwt
                            dsimp only at hwt
                            refine x_region (s_val rfl (v_move rfl) (s_val rfl (v_move rfl) (s_val rfl (v_move rfl) ?_)))
                            refine s_val rfl (v_mul rfl rfl (by rw [w64 (by omega)]; omega : IntKind.wrap .i64 (4 * (k : Int)) = ((4 * k : Nat) : Int))) ?_
                            refine s_val rfl (v_move rfl) (s_val rfl (v_move rfl) ?_)
                            refine s_val rfl (v_mul rfl rfl (by rw [w64 (by omega)]; omega : IntKind.wrap .i64 (16 * (i : Int)) = ((16 * i : Nat) : Int))) ?_
                            refine s_val rfl (v_move rfl) ?_
                            refine s_val rfl (v_add rfl rfl (by rw [w64 (by omega)]; omega : IntKind.wrap .i64 (((16 * i : Nat) : Int) + (k : Int)) = ((16 * i + k : Nat) : Int))) ?_
                            refine s_val rfl (v_idxA Tryz.underlying98 Tryz.sizeOf42 rfl hga rfl rfl hlt (by first | exact Nat.zero_add _ | rfl)) ?_
                            refine s_val rfl (v_load Tryz.isAgg42 rfl (hc' 0 _ rfl)) ?_
                            refine s_do rfl (d_call1 Tryz.call310 rfl (rfSave_spec W0 _ qs (wrW f ((pgW (cutW ws n) i).take k) 0 y.fr) f (4 * k : Nat) 4 z hzb hF)) ?_
                            rintro _ B_ ⟨rfl, hB_⟩
                            obtain rfl := hB_.symm
                            refine x_nil (n_block (n_then ?_))
                            refine mid_intro () ?_ ?_ ?_
                            · exact hk1
                            · repeat (first | exact sub_nil | refine sub_cons rfl ?_)
                            · rw [hwt]
                              exact inferInstance
                          · intro c20
                            refine x_skip (n_block (n_then ?_))
                            refine mid_intro () ?_ ?_ ?_
                            · exact hk1
                            · repeat (first | exact sub_nil | refine sub_cons rfl ?_)
                            · rw [hwt, List.getElem?_eq_none (by omega)]
                              exact inferInstance
                        · intro _ hk1
                          refine x_region (s_val rfl (v_move rfl) ?_)
                          refine s_val rfl (v_add rfl rfl (by first | exact w64 (by omega) | rfl)) ?_
                          refine s_val rfl (v_assign rfl) (x_nil (n_then ?_))
                          refine inv_intro (k + 1) ?_ ?_ ?_ ?_
                          · omega
                          · omega
                          · repeat (first | exact sub_nil | refine sub_cons rfl ?_)
                          · exact inferInstance
                      · intro c18
                        refine x_exit (e_then (e_then (e_block (n_block (n_then (x_region (s_val rfl (v_move rfl) ?_)))))))
                        refine s_val rfl (v_add rfl rfl (by first | exact w64 (by omega) | rfl)) ?_
                        refine s_val rfl (v_assign rfl) (x_nil (n_then ?_))
                        refine inv_intro (i + 1) ?_ ?_ ?_ ?_
                        · omega
                        · omega
                        · repeat (first | exact sub_nil | refine sub_cons rfl ?_)
                        · obtain rfl : k = 16 := by omega
                          rw [hnx, show (pgW (cutW ws n) i).take 16 = pgW (cutW ws n) i from List.take_of_length_le (by rw [pgW, List.length_take]; omega)]
                          exact inferInstance
                  · intro c13
                    refine x_exit (e_then (e_then (e_block (n_then (x_seq (x_region (s_val rfl (v_assign rfl) (x_nil (n_then (x_ret (x_done (.inl rfl) (.cons (r_tmp rfl) .nil) ?_)))))))))))
                    obtain rfl : i = n := by omega
                    exact ⟨_, ⟨rfl, rfl⟩, inferInstance⟩
end Go.Proofs.YtnidndllknffgaaGreat
namespace Go.Proofs.YtnidndllknffgaaGreat
open Go.RowKit
set_option linter.unusedSimpArgs false
set_option linter.unusedVariables false
set_option maxRecDepth 20000
def rtbH (b : Nat) (L : List Int) : HP := chk (fun C => ∃ a c, C = [pt b (cob [.slice a L.length c] 450), osl 3 1 (.slice a L.length c) (L.flatMap inI)])
section
variable {W0 : World} {N : FSz} {K : Act → World → Prop} {e : Env} {A B R R1 R2 : List HP} {b n c : Nat} {L : List Int}
theorem run_rtb [hk : Tk rtbH b A L R] (h : ∀ a c, Run W0 N K e (pt b (cob [.slice a L.length c] 450) :: osl 3 1 (.slice a L.length c) (L.flatMap inI) :: R)) : Run W0 N K e A :=
  run_tk (r := rtbH) (b := b) (run_chk fun C hC => by obtain ⟨a, c, rfl⟩ := hC; exact h a c)
theorem ent_rtb {a : Option Addr} {ys : List Value} [h1 : Tk pt b A (cob [.slice a n c] 450) R1] [h2 : Tk (osl 3 1) (.slice a n c) R1 ys R2] (hk : n = L.length) (hy : ys = L.flatMap inI) [q : Ent R2 B] : Ent A (rtbH b L :: B) := by
  subst hk; subst hy
  exact (Ent.ofPerm (h1.perm.trans (h2.perm.cons _))).trans ((ent_chk (R := R2) (C := [_, _]) ⟨a, c, rfl⟩).trans (Ent.cons q))
end
theorem inI_len (x : Int) : (inI x).length = 1 := rfl
theorem inI_fm (L : List Int) : (L.flatMap inI).length = L.length := by rw [flat_len inI_len]; omega
theorem inI_set (L : List Int) (j : Nat) (w : Int) : (L.flatMap inI).set j (.int .i64 w) = (L.set j w).flatMap inI := by
  induction L generalizing j with
  | nil => rfl
  | cons x L ih =>
    cases j with
    | zero => rfl
    | succ j => simp only [List.flatMap_cons, inI, List.cons_append, List.nil_append, List.set_cons_succ] at ih ⊢; rw [ih]
theorem inI_one (L : List Int) : allOne (L.flatMap inI) = true := by
  induction L with
  | nil => rfl
  | cons x l ih => rw [List.flatMap_cons, allOne, List.all_append, Bool.and_eq_true]; exact ⟨rfl, ih⟩
theorem rpNew_spec03 (W0 : World) (R : List HP) (n : Nat) (h : n ≤ 64) : Spec Tryz.prog W0 194 [.int .i64 n] R (fun v B => ∃ b, v = .tuple #[.pointer (some ⟨b, 0, none⟩), .int .i64 0] ∧ B = rtbH b (List.replicate n (-1)) :: R) := by
  refine spec_body Tryz.func194 Tryz.ntmps194 rfl rfl ?_
  refine x_seq (x_region (s_val rfl (v_assign rfl) (s_val rfl (v_assign rfl) (x_nil (n_then (x_seq (x_seq (x_region (s_val rfl (v_move rfl) (s_val rfl (v_lss rfl rfl) (s_val rfl (v_move rfl) ?_)))))))))))
  refine s_or rfl rfl rfl ?_ ?_
  · intro g1_3
    omega
  · intro g1_3
    refine s_val rfl (v_move rfl) (s_yes rfl rfl (s_val rfl (v_gtr rfl rfl) (s_val rfl (v_pick_f rfl rfl) (x_nil (n_then ?_)))))
    refine x_if rfl ?_ ?_
    · intro c1
      omega
    · intro c1
      refine x_skip (n_then (x_seq (x_region (s_val rfl (v_build Tryz.underlying450 Tryz.zeroValue450 (sized_cons Tryz.sizeOf37 sized_nil) fil_nil) ?_))))
      refine s_do rfl (d_boxA rfl) ?_
      rintro _ _ ⟨bt, rfl, rfl⟩
      refine s_val rfl (v_assign rfl) (x_nil (n_then (x_seq (x_seq (x_region (s_val rfl (v_assign rfl) (x_nil (n_then (x_block ?_)))))))))
      refine x_loop (fun X : Nat × Option Addr × Nat => X.1 ≤ n) (fun X => [(0, .int .i64 n), (4, .pointer (some ⟨bt, 0, none⟩)), (5, .int .i64 X.1)]) (fun X => pt bt (cob [.slice X.2.1 X.1 X.2.2] 450) :: osl 3 1 (.slice X.2.1 X.1 X.2.2) ((List.replicate X.1 (-1)).flatMap inI) :: R) (fun X => n - X.1) (0, none, 0) ?_ ?_ ?_ ?_
      · exact Nat.zero_le _
      · repeat (first | exact sub_nil | refine sub_cons rfl ?_)
      · exact Ent.cons ent_osl_nil
      · intro ⟨i, a, c⟩ hi
        dsimp only at hi ⊢
        refine x_seq (x_seq (x_region (s_val rfl (v_move rfl) (s_val rfl (v_move rfl) (s_val rfl (v_lss rfl rfl) (x_nil (n_then ?_)))))))
        refine x_if rfl ?_ ?_
        · intro c5
          refine x_skip (n_then (x_seq (x_block (x_region (s_val rfl (v_move rfl) (s_val rfl (v_move rfl) (s_val rfl (v_nilCheck rfl) ?_)))))))
          refine s_val rfl (v_fieldAddr rfl Tryz.underlying450 rfl Tryz.sizeOf37 rfl (by first | exact Nat.zero_add _ | rfl)) ?_
          refine s_val rfl (v_load Tryz.isAgg37 rfl (cell_own rfl)) ?_
          refine s_do rfl (d_sliceLit Tryz.underlying37 Tryz.sizeOf3 Tryz.zeroValue3 rfl rfl rfl rfl rfl (by decide) (by decide)) ?_
          rintro _ _ ⟨b2, rfl, rfl⟩
          refine s_do rfl (d_append (sz := 1) (by_ := 8) (info := Tryz.t3) Tryz.underlying37 (by kernel_rfl) rfl rfl rfl rfl (by decide) rfl rfl cells_all rfl rfl (by simp only [maxLen]; omega) (by omega)) ?_
          rintro _ _ ⟨a3, c3, rfl, rfl⟩
          have hmp : (List.replicate i (-1)).flatMap inI ++ [Value.int .i64 (-1)] = (List.replicate (i + 1) (-1 : Int)).flatMap inI := by
            rw [List.replicate_succ', List.flatMap_append]; rfl
          rw [hmp]
          refine s_val rfl (v_nilCheck rfl) ?_
          refine s_val rfl (v_fieldAddr rfl Tryz.underlying450 rfl Tryz.sizeOf37 rfl (by first | exact Nat.zero_add _ | rfl)) ?_
          refine s_do0 (d_store Tryz.sizeOf37 rfl rfl rfl (Nat.le_of_ble_eq_true rfl) SetL.eq) ?_
          rintro _ _ rfl
          refine x_nil (n_block (n_then (x_region (s_val rfl (v_move rfl) ?_))))
          refine s_val rfl (v_add rfl rfl (by first | exact w64 (by omega) | rfl)) ?_
          refine s_val rfl (v_assign rfl) (x_nil (n_then ?_))
          refine inv_intro (i + 1, a3, c3) ?_ ?_ ?_ ?_
          · omega
          · omega
          · repeat (first | exact sub_nil | refine sub_cons rfl ?_)
          · exact inferInstance
        · intro c5
          refine x_exit (e_then (e_then (e_block (n_then (x_seq (x_region (s_val rfl (v_move rfl) (s_val rfl (v_assign rfl) (s_val rfl (v_assign rfl) (x_nil (n_then (x_ret (x_done (.inl rfl) (.cons (r_tmp rfl) (.cons (r_tmp rfl) .nil)) ?_)))))))))))))
          obtain rfl : i = n := by omega
          exact ⟨_, ⟨bt, rfl, rfl⟩, ent_rtb (by simp) rfl⟩
def stL (L : List Int) (f k : Nat) (w : Int) : List Int := (List.range L.length).map fun j => if f ≤ j ∧ j < f + k then w else L.getD j (-1)
theorem stL_len {L : List Int} {f k : Nat} {w : Int} : (stL L f k w).length = L.length := by simp [stL]
theorem stL_zero {L : List Int} {f : Nat} {w : Int} : stL L f 0 w = L := by
  apply List.ext_getElem
  · exact stL_len
  · intro i h1 h2
    simp only [stL, List.getElem_map, List.getElem_range]
    rw [if_neg (by omega)]; simp [List.getD, h2]
theorem stL_set {L : List Int} {f k : Nat} {w : Int} (h : f + k < L.length) : (stL L f k w).set (f + k) w = stL L f (k + 1) w := by
  apply List.ext_getElem
  · simp [stL]
  · intro i h1 h2
    rw [List.getElem_set]
    simp only [stL, List.getElem_map, List.getElem_range]
    by_cases e : f + k = i
    · rw [if_pos e, if_pos (by omega)]
    · rw [if_neg e]
      by_cases q : f ≤ i ∧ i < f + k
      · rw [if_pos q, if_pos (by omega)]
      · rw [if_neg q, if_neg (by omega)]
theorem rpS_st {L : List Int} {f k : Nat} {w : Int} (h : rpE L f k w = 0) : rpS L f k w = stL L f k w := by
  rw [rpS, if_pos h, stL]
  apply List.map_congr_left
  intro i _
  by_cases q : f ≤ i ∧ i < f + k
  · rw [if_pos q, if_pos (by omega)]
  · rw [if_neg q, if_neg (by omega)]
theorem rpE_used {L : List Int} {f k i : Nat} {w : Int} (hb : ¬ ((f : Int) < 0 ∨ (k : Int) < 1 ∨ (L.length : Int) < f ∨ (L.length : Int) - f < k ∨ w < 0 ∨ 64 ≤ w)) (hi : i < k) (h : 0 ≤ L.getD (f + i) (-1)) : rpE L f k w = 5 := by
  rw [rpE, if_neg hb, if_pos]
  rw [List.any_eq_true]
  exact ⟨i, List.mem_range.2 (by omega), decide_eq_true (by rw [Int.toNat_natCast]; exact h)⟩
theorem rpE_free {L : List Int} {f k : Nat} {w : Int} (hb : ¬ ((f : Int) < 0 ∨ (k : Int) < 1 ∨ (L.length : Int) < f ∨ (L.length : Int) - f < k ∨ w < 0 ∨ 64 ≤ w)) (h : ∀ j, j < k → ¬ 0 ≤ L.getD (f + j) (-1)) : rpE L f k w = 0 := by
  rw [rpE, if_neg hb, if_neg]
  intro q
  obtain ⟨i, hi, hd⟩ := List.any_eq_true.1 q
  have hd := of_decide_eq_true hd
  rw [Int.toNat_natCast] at hd
  exact h i (by have := List.mem_range.1 hi; omega) hd
theorem rpGive_spec (W0 : World) (R : List HP) (b : Nat) (L : List Int) (hl : L.length ≤ 64) (f k w : Int) :
    Spec Tryz.prog W0 196 [.pointer (some ⟨b, 0, none⟩), .int .i64 f, .int .i64 k, .int .i64 w] (rtbH b L :: R) (fun v B => v = .int .i64 (rpE L f k w) ∧ B = rtbH b (rpS L f k w) :: R) := by
  refine spec_body Tryz.func196 Tryz.ntmps196 rfl rfl ?_
  refine x_seq (x_region (s_val rfl (v_assign rfl) (x_nil (n_then (x_seq (x_seq ?_))))))
  refine run_rtb (b := b) fun a c => ?_
  refine x_region (s_val rfl (v_move rfl) (s_val rfl (v_lss rfl rfl) (s_val rfl (v_move rfl) ?_)))
  refine s_or rfl rfl rfl ?_ ?_
  · intro g1_3
    refine s_no rfl rfl rfl rfl (s_val rfl (v_pick_t rfl rfl) (s_val rfl (v_move rfl) (s_no rfl rfl rfl rfl (s_no rfl rfl rfl rfl (s_no rfl rfl rfl rfl (s_no rfl rfl rfl rfl (s_no rfl rfl rfl rfl (s_no rfl rfl rfl rfl (s_no rfl rfl rfl rfl (s_val rfl (v_pick_t rfl rfl) (s_val rfl (v_move rfl) (s_no rfl rfl rfl rfl (s_no rfl rfl rfl rfl (s_no rfl rfl rfl rfl (s_no rfl rfl rfl rfl (s_no rfl rfl rfl rfl (s_no rfl rfl rfl rfl (s_no rfl rfl rfl rfl (s_no rfl rfl rfl rfl (s_no rfl rfl rfl rfl (s_val rfl (v_pick_t rfl rfl) (s_val rfl (v_move rfl) (s_no rfl rfl rfl rfl ?_)))))))))))))))))))))))
    refine s_no rfl rfl rfl rfl (s_val rfl (v_pick_t rfl rfl) (s_val rfl (v_move rfl) (s_no rfl rfl rfl rfl (s_no rfl rfl rfl rfl (s_val rfl (v_pick_t rfl rfl) (x_nil (n_then (x_ift rfl (x_seq (x_region (s_val rfl (v_assign rfl) (x_nil (n_then (x_ret (r_then (x_done (.inl rfl) (.cons (r_tmp rfl) .nil) ?_))))))))))))))))
    have he : rpE L f k w = 1 := by rw [rpE, if_pos (by omega)]
    rw [rpS, he, if_neg (by decide)]
    exact ⟨_, ⟨rfl, rfl⟩, ent_rtb rfl rfl⟩
  · intro g1_3
    refine s_val rfl (v_move rfl) (s_yes rfl rfl (s_val rfl (v_lss rfl rfl) (s_val rfl (v_pick_f rfl rfl) (s_val rfl (v_move rfl) ?_))))
    refine s_or rfl rfl rfl ?_ ?_
    · intro g1_7
      refine s_no rfl rfl rfl rfl (s_no rfl rfl rfl rfl (s_no rfl rfl rfl rfl (s_no rfl rfl rfl rfl (s_no rfl rfl rfl rfl (s_no rfl rfl rfl rfl (s_val rfl (v_pick_t rfl rfl) (s_val rfl (v_move rfl) (s_no rfl rfl rfl rfl (s_no rfl rfl rfl rfl (s_no rfl rfl rfl rfl (s_no rfl rfl rfl rfl (s_no rfl rfl rfl rfl (s_no rfl rfl rfl rfl (s_no rfl rfl rfl rfl (s_no rfl rfl rfl rfl (s_no rfl rfl rfl rfl (s_val rfl (v_pick_t rfl rfl) (s_val rfl (v_move rfl) (s_no rfl rfl rfl rfl (s_no rfl rfl rfl rfl (s_val rfl (v_pick_t rfl rfl) (s_val rfl (v_move rfl) (s_no rfl rfl rfl rfl ?_)))))))))))))))))))))))
      refine s_no rfl rfl rfl rfl (s_val rfl (v_pick_t rfl rfl) (x_nil (n_then (x_ift rfl (x_seq (x_region (s_val rfl (v_assign rfl) (x_nil (n_then (x_ret (r_then (x_done (.inl rfl) (.cons (r_tmp rfl) .nil) ?_))))))))))))
      have he : rpE L f k w = 1 := by rw [rpE, if_pos (by omega)]
      rw [rpS, he, if_neg (by decide)]
      exact ⟨_, ⟨rfl, rfl⟩, ent_rtb rfl rfl⟩
    · intro g1_7
      refine s_val rfl (v_move rfl) (s_yes rfl rfl (s_val rfl (v_move rfl) (s_yes rfl rfl (s_val rfl (v_nilCheck rfl) (s_yes rfl rfl ?_)))))
      refine s_val rfl (v_fieldAddr rfl Tryz.underlying450 rfl Tryz.sizeOf37 rfl (by first | exact Nat.zero_add _ | rfl)) ?_
      refine s_yes rfl rfl (s_val rfl (v_load Tryz.isAgg37 rfl (cell_own rfl)) ?_)
      refine s_yes rfl rfl (s_val rfl (v_len_slice Tryz.underlying37 rfl) (s_yes rfl rfl (s_val rfl (v_gtr rfl rfl) (s_val rfl (v_pick_f rfl rfl) (s_val rfl (v_move rfl) ?_)))))
      refine s_or rfl rfl rfl ?_ ?_
      · intro g1_16
        refine s_no rfl rfl rfl rfl (s_no rfl rfl rfl rfl (s_no rfl rfl rfl rfl (s_no rfl rfl rfl rfl (s_no rfl rfl rfl rfl (s_no rfl rfl rfl rfl (s_no rfl rfl rfl rfl (s_no rfl rfl rfl rfl (s_val rfl (v_pick_t rfl rfl) (s_val rfl (v_move rfl) (s_no rfl rfl rfl rfl (s_no rfl rfl rfl rfl (s_val rfl (v_pick_t rfl rfl) (s_val rfl (v_move rfl) (s_no rfl rfl rfl rfl (s_no rfl rfl rfl rfl (s_val rfl (v_pick_t rfl rfl) (x_nil (n_then (x_ift rfl (x_seq (x_region (s_val rfl (v_assign rfl) (x_nil ?_)))))))))))))))))))))))
        refine n_then (x_ret (r_then (x_done (.inl rfl) (.cons (r_tmp rfl) .nil) ?_)))
        have he : rpE L f k w = 1 := by rw [rpE, if_pos (by omega)]
        rw [rpS, he, if_neg (by decide)]
        exact ⟨_, ⟨rfl, rfl⟩, ent_rtb rfl rfl⟩
      · intro g1_16
        refine s_val rfl (v_move rfl) (s_yes rfl rfl (s_val rfl (v_move rfl) (s_yes rfl rfl (s_val rfl (v_nilCheck rfl) (s_yes rfl rfl ?_)))))
        refine s_val rfl (v_fieldAddr rfl Tryz.underlying450 rfl Tryz.sizeOf37 rfl (by first | exact Nat.zero_add _ | rfl)) ?_
        refine s_yes rfl rfl (s_val rfl (v_load Tryz.isAgg37 rfl (cell_own rfl)) ?_)
        refine s_yes rfl rfl (s_val rfl (v_len_slice Tryz.underlying37 rfl) (s_yes rfl rfl (s_val rfl (v_move rfl) (s_yes rfl rfl ?_))))
        refine s_val rfl (v_sub rfl rfl (w64 (by omega))) ?_
        refine s_yes rfl rfl (s_val rfl (v_gtr rfl rfl) (s_val rfl (v_pick_f rfl rfl) (s_val rfl (v_move rfl) ?_)))
        refine s_or rfl rfl rfl ?_ ?_
        · intro g1_27
          refine s_no rfl rfl rfl rfl (s_val rfl (v_pick_t rfl rfl) (s_val rfl (v_move rfl) (s_no rfl rfl rfl rfl (s_no rfl rfl rfl rfl (s_val rfl (v_pick_t rfl rfl) (x_nil (n_then (x_ift rfl (x_seq (x_region (s_val rfl (v_assign rfl) (x_nil (n_then (x_ret (r_then (x_done (.inl rfl) (.cons (r_tmp rfl) .nil) ?_))))))))))))))))
          have he : rpE L f k w = 1 := by rw [rpE, if_pos (by omega)]
          rw [rpS, he, if_neg (by decide)]
          exact ⟨_, ⟨rfl, rfl⟩, ent_rtb rfl rfl⟩
        · intro g1_27
          refine s_val rfl (v_move rfl) (s_yes rfl rfl (s_val rfl (v_lss rfl rfl) (s_val rfl (v_pick_f rfl rfl) (s_val rfl (v_move rfl) ?_))))
          refine s_or rfl rfl rfl ?_ ?_
          · intro g1_31
            refine s_no rfl rfl rfl rfl (s_val rfl (v_pick_t rfl rfl) (x_nil (n_then (x_ift rfl (x_seq (x_region (s_val rfl (v_assign rfl) (x_nil (n_then (x_ret (r_then (x_done (.inl rfl) (.cons (r_tmp rfl) .nil) ?_))))))))))))
            have he : rpE L f k w = 1 := by rw [rpE, if_pos (by omega)]
            rw [rpS, he, if_neg (by decide)]
            exact ⟨_, ⟨rfl, rfl⟩, ent_rtb rfl rfl⟩
          · intro g1_31
            refine s_val rfl (v_move rfl) (s_yes rfl rfl (s_val rfl (v_geq rfl rfl) (s_val rfl (v_pick_f rfl rfl) (x_nil (n_then ?_)))))
            refine x_if rfl ?_ ?_
            · intro c1
              refine x_seq (x_region (s_val rfl (v_assign rfl) (x_nil (n_then (x_ret (r_then (x_done (.inl rfl) (.cons (r_tmp rfl) .nil) ?_)))))))
              have he : rpE L f k w = 1 := by rw [rpE, if_pos (by omega)]
              rw [rpS, he, if_neg (by decide)]
              exact ⟨_, ⟨rfl, rfl⟩, ent_rtb rfl rfl⟩
            · intro c1
              refine x_skip (n_then (x_seq (x_seq ?_)))
              have hb : ¬ (f < 0 ∨ k < 1 ∨ (L.length : Int) < f ∨ (L.length : Int) - f < k ∨ w < 0 ∨ 64 ≤ w) := by omega
              obtain ⟨f, rfl⟩ : ∃ f' : Nat, f = (f' : Int) := ⟨f.toNat, by omega⟩
              obtain ⟨k, rfl⟩ : ∃ k' : Nat, k = (k' : Int) := ⟨k.toNat, by omega⟩
              have hfk : f + k ≤ L.length := by omega
              refine run_form (E := 3) (sz := 1) (a := a) (c := c) (n := L.length) (ys := L.flatMap inI) (fun hf => ?_)
              obtain ⟨g, rfl⟩ := form_some hf (by rw [← List.length_pos_iff, inI_fm]; omega)
              refine x_region (s_val rfl (v_assign rfl) (x_nil (n_then (x_block ?_))))
              refine x_loop (fun i : Nat => i ≤ k ∧ ∀ j, j < i → ¬ 0 ≤ L.getD (f + j) (-1)) (fun i => [(0, .pointer (some ⟨b, 0, none⟩)), (1, .int .i64 f), (2, .int .i64 k), (3, .int .i64 w), (9, .int .i64 i)]) (fun i => pt b (cob [.slice (some ⟨g, 0, none⟩) L.length c] 450) :: osl 3 1 (.slice (some ⟨g, 0, none⟩) L.length c) (L.flatMap inI) :: R) (fun i => k - i) 0 ?_ ?_ ?_ ?_
              · exact ⟨Nat.zero_le _, fun j hj => absurd hj (Nat.not_lt_zero j)⟩
              · repeat (first | exact sub_nil | refine sub_cons rfl ?_)
              · exact inferInstance
              · intro i ⟨hi, hI⟩
                refine x_seq (x_seq (x_region (s_val rfl (v_move rfl) (s_val rfl (v_move rfl) (s_val rfl (v_lss rfl rfl) (x_nil (n_then ?_)))))))
                refine x_if rfl ?_ ?_
                · intro c4
                  refine x_skip (n_then (x_seq (x_block (x_seq ?_))))
                  have hi1 : f + i < L.length := by omega
                  have hgi : L[f + i]? = some (L.getD (f + i) (-1)) := by simp [List.getD, hi1]
                  refine x_region (s_val rfl (v_move rfl) (s_val rfl (v_nilCheck rfl) ?_))
                  refine s_val rfl (v_fieldAddr rfl Tryz.underlying450 rfl Tryz.sizeOf37 rfl (by first | exact Nat.zero_add _ | rfl)) ?_
                  refine s_val rfl (v_load Tryz.isAgg37 rfl (cell_own rfl)) ?_
                  refine s_val rfl (v_move rfl) (s_val rfl (v_move rfl) ?_)
                  refine s_val rfl (v_add rfl rfl (by rw [w64 (by omega)]; omega : IntKind.wrap .i64 ((f : Int) + (i : Int)) = ((f + i : Nat) : Int))) ?_
                  refine s_val rfl (v_idx Tryz.underlying37 Tryz.sizeOf3 rfl rfl rfl hi1 (by first | exact Nat.zero_add _ | rfl)) ?_
                  refine s_val rfl (v_load Tryz.isAgg3 rfl (cells_rw (f := inI) (E := 3) (sz := 1) (n := L.length) (c := c) rfl inI_len (by decide) hgi 0 _ rfl)) ?_
                  refine s_val rfl (v_geq rfl rfl) (x_nil (n_then ?_))
                  refine x_if rfl ?_ ?_
                  · intro c6
                    refine x_seq (x_region (s_val rfl (v_assign rfl) (x_nil (n_then (x_ret (r_block (r_then (r_then (r_block (r_then (x_done (.inl rfl) (.cons (r_tmp rfl) .nil) ?_)))))))))))
                    have he : rpE L f k w = 5 := rpE_used hb (by omega) c6
                    rw [rpS, he, if_neg (by decide)]
                    exact ⟨_, ⟨rfl, rfl⟩, ent_rtb rfl rfl⟩
                  · intro c6
                    refine x_skip (n_block (n_then (x_region (s_val rfl (v_move rfl) ?_))))
                    refine s_val rfl (v_add rfl rfl (by first | exact w64 (by omega) | rfl)) ?_
                    refine s_val rfl (v_assign rfl) (x_nil (n_then ?_))
                    refine inv_intro (i + 1) ?_ ?_ ?_ ?_
                    · refine ⟨by omega, fun j hj => ?_⟩
                      rcases Nat.lt_or_ge j i with q | q
                      · exact hI j q
                      · rw [show j = i by omega]; exact c6
                    · omega
                    · repeat (first | exact sub_nil | refine sub_cons rfl ?_)
                    · exact inferInstance
                · intro c4
                  refine x_exit (e_then (e_then (e_block (n_then (x_seq ?_)))))
                  obtain rfl : i = k := by omega
                  have he : rpE L f i w = 0 := rpE_free hb hI
                  refine x_region (s_do rfl (d_slice0 Tryz.underlying37 Tryz.sizeOf3 rfl) ?_)
                  rintro _ _ ⟨be, rfl, rfl⟩
                  refine s_val rfl (v_move rfl) (s_val rfl (v_nilCheck rfl) ?_)
                  refine s_val rfl (v_fieldAddr rfl Tryz.underlying450 rfl Tryz.sizeOf37 rfl (by first | exact Nat.zero_add _ | rfl)) ?_
                  refine s_val rfl (v_load Tryz.isAgg37 rfl (cell_own rfl)) ?_
                  refine s_do rfl (d_append (sz := 1) (by_ := 8) (info := Tryz.t3) Tryz.underlying37 (by kernel_rfl) rfl rfl rfl rfl (by decide) rfl rfl (cells_osl (E := 3) (sz := 1) (a := some ⟨g, 0, none⟩) (c := c) (n := L.length)) (by rw [inI_fm, Nat.mul_one]) (inI_one L) (by simp only [maxLen]; omega) (by omega)) ?_
                  rintro _ _ ⟨a3, c3, rfl, rfl⟩
                  rw [List.nil_append, Nat.zero_add]
                  refine run_form (E := 3) (sz := 1) (a := a3) (c := c3) (n := L.length) (ys := L.flatMap inI) (fun hf3 => ?_)
                  obtain ⟨g3, rfl⟩ := form_some hf3 (by rw [← List.length_pos_iff, inI_fm]; omega)
                  refine s_val rfl (v_assign rfl) (x_nil (n_then (x_seq (x_seq (x_region (s_val rfl (v_assign rfl) (x_nil (n_then (x_block ?_)))))))))
                  refine x_loop (fun j : Nat => j ≤ i) (fun j => [(0, .pointer (some ⟨b, 0, none⟩)), (1, .int .i64 f), (2, .int .i64 i), (3, .int .i64 w), (10, .slice (some ⟨g3, 0, none⟩) L.length c3), (11, .int .i64 j)]) (fun j => pt b (cob [.slice (some ⟨g, 0, none⟩) L.length c] 450) :: osl 3 1 (.slice (some ⟨g3, 0, none⟩) L.length c3) ((stL L f j w).flatMap inI) :: R) (fun j => i - j) 0 ?_ ?_ ?_ ?_
                  · exact Nat.zero_le _
                  · repeat (first | exact sub_nil | refine sub_cons rfl ?_)
                  · rw [stL_zero]; exact inferInstance
                  · intro j hj
                    refine x_seq (x_seq (x_region (s_val rfl (v_move rfl) (s_val rfl (v_move rfl) (s_val rfl (v_lss rfl rfl) (x_nil (n_then ?_)))))))
                    refine x_if rfl ?_ ?_
                    · intro c10
                      refine x_skip (n_then (x_seq (x_block (x_region (s_val rfl (v_move rfl) (s_val rfl (v_move rfl) (s_val rfl (v_move rfl) ?_)))))))
                      refine s_val rfl (v_add rfl rfl (by rw [w64 (by omega)]; omega : IntKind.wrap .i64 ((f : Int) + (j : Int)) = ((f + j : Nat) : Int))) ?_
                      refine s_val rfl (v_move rfl) ?_
                      refine s_val rfl (v_idx Tryz.underlying37 Tryz.sizeOf3 rfl rfl rfl (by omega) (by first | exact Nat.zero_add _ | rfl)) ?_
                      refine s_do0 (d_storeS (E := 3) (sz := 1) (n := L.length) (c := c3) (l' := (stL L f (j + 1) w).flatMap inI) Tryz.sizeOf3 rfl rfl rfl (by rw [inI_fm, stL_len]; omega) (by rw [Nat.mul_one, inI_set, stL_set (by omega)])) ?_
                      rintro _ _ rfl
                      refine x_nil (n_block (n_then (x_region (s_val rfl (v_move rfl) ?_))))
                      refine s_val rfl (v_add rfl rfl (by first | exact w64 (by omega) | rfl)) ?_
                      refine s_val rfl (v_assign rfl) (x_nil (n_then ?_))
                      refine inv_intro (j + 1) ?_ ?_ ?_ ?_
                      · omega
                      · omega
                      · repeat (first | exact sub_nil | refine sub_cons rfl ?_)
                      · exact inferInstance
                    · intro c10
                      refine x_exit (e_then (e_then (e_block (n_then (x_seq (x_region (s_val rfl (v_move rfl) (s_val rfl (v_move rfl) (s_val rfl (v_nilCheck rfl) ?_)))))))))
                      refine s_val rfl (v_fieldAddr rfl Tryz.underlying450 rfl Tryz.sizeOf37 rfl (by first | exact Nat.zero_add _ | rfl)) ?_
                      refine s_do0 (d_store Tryz.sizeOf37 rfl rfl rfl (Nat.le_of_ble_eq_true rfl) SetL.eq) ?_
                      rintro _ _ rfl
                      refine x_nil (n_then (x_seq (x_region (s_val rfl (v_assign rfl) (x_nil (n_then (x_ret (x_done (.inl rfl) (.cons (r_tmp rfl) .nil) ?_))))))))
                      obtain rfl : j = i := by omega
                      rw [he, rpS_st he]
                      exact ⟨_, ⟨rfl, rfl⟩, ent_rtb stL_len.symm rfl⟩
end Go.Proofs.YtnidndllknffgaaGreat
