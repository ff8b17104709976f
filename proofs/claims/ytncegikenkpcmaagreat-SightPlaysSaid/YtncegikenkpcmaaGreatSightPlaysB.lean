/-
  Part 2 of the proof of SightPlays: rules, and walks of functions. Conditions: none.
-/
import Derived.Test.YtncegikenkpcmaaGreatSightPlaysA
namespace Go.Proofs.YtncegikenkpcmaaGreat
open Go.RowKit
set_option linter.unusedSimpArgs false
set_option linter.unusedVariables false
set_option maxRecDepth 20000
def gvE (rs : List Rn) (n f k w : Int) : Int := if f < 0 ∨ k < 1 ∨ n < f ∨ n - f < k ∨ w < 0 ∨ 64 ≤ w then 1 else if mtH rs f k then 5 else 0
def gvR (rs : List Rn) (n f k w : Int) : List Rn := if gvE rs n f k w = 0 then rnIns rs (mtA rs f) (f, k, w) else rs
theorem gvR_ok {rs : List Rn} {n f k w : Int} (h : TbOk rs) (hn : n ≤ 64) : TbOk (gvR rs n f k w) := by
  unfold gvR; split
  · rename_i he
    have hb : ¬ (f < 0 ∨ k < 1 ∨ n < f ∨ n - f < k ∨ w < 0 ∨ 64 ≤ w) := fun q => by rw [gvE, if_pos q] at he; exact absurd he (by decide)
    intro x hx
    rw [rnIns] at hx
    rcases List.mem_append.1 hx with q | q
    · exact h x (List.mem_of_mem_take q)
    · rcases List.mem_cons.1 q with rfl | q
      · exact ⟨by show 0 ≤ f; omega, by show 1 ≤ k; omega, by show f + k ≤ 64; omega, by show 0 ≤ w; omega, by show w < 64; omega⟩
      · exact h x (List.mem_of_mem_drop q)
  · exact h
theorem gvR_len {rs : List Rn} {n f k w : Int} : (gvR rs n f k w).length ≤ rs.length + 1 := by
  unfold gvR; split
  · rw [rnIns_len _ (mtA_le _ _)]; omega
  · omega
theorem paGive_spec (W0 : World) (R : List HP) (b : Nat) (rs : List Rn) (n : Int) (hn : 0 ≤ n ∧ n ≤ 64) (hok : TbOk rs) (hl : rs.length ≤ 900) (f k w : Int) :
    Spec Tryz.prog W0 76 [.pointer (some ⟨b, 0, none⟩), .int .i64 f, .int .i64 k, .int .i64 w] (tabH b (rs, n) :: R) (fun v B => v = .int .i64 (gvE rs n f k w) ∧ B = tabH b (gvR rs n f k w, n) :: R) := by
  refine spec_body Tryz.func76 Tryz.ntmps76 rfl rfl ?_
  refine x_seq ?_
  refine run_tab (b := b) fun a c => ?_
  dsimp only
  refine x_region (s_val rfl (v_assign rfl) (x_nil (n_then (x_seq (x_block (x_seq (x_region (s_val rfl (v_move rfl) (s_do rfl (d_call1 Tryz.call142 rfl (paNone_spec W0 _ b rs.length c a n)) ?_)))))))))
  rintro _ B_ ⟨rfl, hB_⟩
  obtain rfl := hB_.symm
  refine s_val rfl (v_assign rfl) (x_nil (n_then ?_))
  refine x_if rfl ?_ ?_
  · intro c1
    exact absurd c1 (by decide)
  · intro c1
    refine x_seq (x_seq (x_region (s_val rfl (v_move rfl) (s_val rfl (v_lss rfl rfl) (s_val rfl (v_assign rfl) (x_nil (n_then ?_)))))))
    refine x_if rfl ?_ ?_
    · intro c3
      refine x_skip (n_then (x_ift rfl (x_seq (x_region (s_val rfl (v_assign rfl) (x_nil (n_then (x_ret (r_block (r_then (x_done (.inl rfl) (.cons (r_tmp rfl) .nil) ?_)))))))))))
      have he : gvE rs n f k w = 1 := by rw [gvE, if_pos (by omega)]
      rw [gvR, he, if_neg (by decide)]
      exact ⟨_, ⟨rfl, rfl⟩, ent_tab rfl rfl⟩
    · intro c3
      refine x_seq (x_region (s_val rfl (v_move rfl) (s_val rfl (v_lss rfl rfl) (s_val rfl (v_assign rfl) (x_nil (n_then ?_))))))
      refine x_if rfl ?_ ?_
      · intro c4
        refine x_skip (n_then (x_ift rfl (x_seq (x_region (s_val rfl (v_assign rfl) (x_nil (n_then (x_ret (r_block (r_then (x_done (.inl rfl) (.cons (r_tmp rfl) .nil) ?_)))))))))))
        have he : gvE rs n f k w = 1 := by rw [gvE, if_pos (by omega)]
        rw [gvR, he, if_neg (by decide)]
        exact ⟨_, ⟨rfl, rfl⟩, ent_tab rfl rfl⟩
      · intro c4
        refine x_seq (x_region (s_val rfl (v_move rfl) (s_val rfl (v_move rfl) (s_val rfl (v_nilCheck rfl) ?_))))
        refine s_val rfl (v_fieldAddr rfl Tryz.underlying234 rfl Tryz.sizeOf3 rfl (by first | exact Nat.zero_add _ | rfl)) ?_
        refine s_val rfl (v_load Tryz.isAgg3 rfl (cell_own rfl)) ?_
        refine s_val rfl (v_gtr rfl rfl) (s_val rfl (v_assign rfl) (x_nil (n_then ?_)))
        refine x_if rfl ?_ ?_
        · intro c5
          refine x_skip (n_then (x_ift rfl (x_seq (x_region (s_val rfl (v_assign rfl) (x_nil (n_then (x_ret (r_block (r_then (x_done (.inl rfl) (.cons (r_tmp rfl) .nil) ?_)))))))))))
          have he : gvE rs n f k w = 1 := by rw [gvE, if_pos (by omega)]
          rw [gvR, he, if_neg (by decide)]
          exact ⟨_, ⟨rfl, rfl⟩, ent_tab rfl rfl⟩
        · intro c5
          refine x_seq (x_region (s_val rfl (v_move rfl) (s_val rfl (v_move rfl) (s_val rfl (v_nilCheck rfl) ?_))))
          refine s_val rfl (v_fieldAddr rfl Tryz.underlying234 rfl Tryz.sizeOf3 rfl (by first | exact Nat.zero_add _ | rfl)) ?_
          refine s_val rfl (v_load Tryz.isAgg3 rfl (cell_own rfl)) ?_
          refine s_val rfl (v_move rfl) ?_
          refine s_val rfl (v_sub rfl rfl (w64 (by omega))) ?_
          refine s_val rfl (v_gtr rfl rfl) (s_val rfl (v_assign rfl) (x_nil (n_then ?_)))
          refine x_if rfl ?_ ?_
          · intro c6
            refine x_skip (n_then (x_ift rfl (x_seq (x_region (s_val rfl (v_assign rfl) (x_nil (n_then (x_ret (r_block (r_then (x_done (.inl rfl) (.cons (r_tmp rfl) .nil) ?_)))))))))))
            have he : gvE rs n f k w = 1 := by rw [gvE, if_pos (by omega)]
            rw [gvR, he, if_neg (by decide)]
            exact ⟨_, ⟨rfl, rfl⟩, ent_tab rfl rfl⟩
          · intro c6
            refine x_seq (x_region (s_val rfl (v_move rfl) (s_val rfl (v_lss rfl rfl) (s_val rfl (v_assign rfl) (x_nil (n_then ?_))))))
            refine x_if rfl ?_ ?_
            · intro c7
              refine x_skip (n_then (x_ift rfl (x_seq (x_region (s_val rfl (v_assign rfl) (x_nil (n_then (x_ret (r_block (r_then (x_done (.inl rfl) (.cons (r_tmp rfl) .nil) ?_)))))))))))
              have he : gvE rs n f k w = 1 := by rw [gvE, if_pos (by omega)]
              rw [gvR, he, if_neg (by decide)]
              exact ⟨_, ⟨rfl, rfl⟩, ent_tab rfl rfl⟩
            · intro c7
              refine x_region (s_val rfl (v_move rfl) (s_val rfl (v_geq rfl rfl) (s_val rfl (v_assign rfl) (x_nil (n_then ?_)))))
              refine x_if rfl ?_ ?_
              · intro c8
                refine x_seq (x_region (s_val rfl (v_assign rfl) (x_nil (n_then (x_ret (r_block (r_then (x_done (.inl rfl) (.cons (r_tmp rfl) .nil) ?_))))))))
                have he : gvE rs n f k w = 1 := by rw [gvE, if_pos (by omega)]
                rw [gvR, he, if_neg (by decide)]
                exact ⟨_, ⟨rfl, rfl⟩, ent_tab rfl rfl⟩
              · intro c8
                refine x_skip (n_block (n_then (x_seq (x_region (s_val rfl (v_move rfl) (s_val rfl (v_move rfl) (s_val rfl (v_move rfl) ?_)))))))
                refine s_do rfl (d_call2 Tryz.call143 rfl (paMeets_spec W0 _ b c rs n a hok (by omega) f k (by omega))) ?_
                rintro _ B_ ⟨rfl, hB_⟩
                obtain rfl := hB_.symm
                refine s_val rfl (v_move rfl) (s_val rfl (v_extract rfl rfl) (s_val rfl (v_extract rfl rfl) (s_val rfl (v_assign rfl) (s_val rfl (v_assign rfl) (x_nil (n_then (x_seq (x_seq (x_region (s_val rfl (v_move rfl) (x_nil (n_then ?_))))))))))))
                refine x_if rfl ?_ ?_
                · intro c11
                  refine x_seq (x_region (s_val rfl (v_assign rfl) (x_nil (n_then (x_ret (r_then (x_done (.inl rfl) (.cons (r_tmp rfl) .nil) ?_)))))))
                  have he : gvE rs n f k w = 5 := by rw [gvE, if_neg (by omega), if_pos c11]
                  rw [gvR, he, if_neg (by decide)]
                  exact ⟨_, ⟨rfl, rfl⟩, ent_tab rfl rfl⟩
                · intro c11
                  refine x_skip (n_then (x_seq ?_))
                  have he : gvE rs n f k w = 0 := by rw [gvE, if_neg (by omega), if_neg c11]
                  have hal := mtA_le rs f
                  refine run_sla (E := 238) (sz := 3) (a := a) (n := rs.length) (c := c) rnV rs rnV_len (by decide) rfl (fun hs => ?_)
                  refine x_region (s_val rfl (v_move rfl) (s_val rfl (v_move rfl) (s_val rfl (v_nilCheck rfl) ?_)))
                  refine s_val rfl (v_fieldAddr rfl Tryz.underlying234 rfl Tryz.sizeOf232 rfl (by first | exact Nat.zero_add _ | rfl)) ?_
                  refine s_val rfl (v_load Tryz.isAgg232 rfl (cell_own rfl)) ?_
                  refine s_do rfl (d_call Tryz.call145 rfl (cloneRn_spec W0 _ rs a rs.length c rfl (by omega) hs)) ?_
                  rintro _ B_ ⟨a2, cc, rfl, hB_⟩
                  obtain rfl := hB_.symm
                  refine s_val rfl (v_move rfl) (s_val rfl (v_move rfl) (s_val rfl (v_move rfl) (s_val rfl (v_move rfl) (s_val rfl (v_build Tryz.underlying238 Tryz.zeroValue238 (sized_cons Tryz.sizeOf3 (sized_cons Tryz.sizeOf3 (sized_cons Tryz.sizeOf3 sized_nil))) (fil_scal rfl Tryz.sizeOf3 rfl rfl (Nat.le_of_ble_eq_true rfl) SetL.eq (fil_scal rfl Tryz.sizeOf3 rfl rfl (Nat.le_of_ble_eq_true rfl) SetL.eq (fil_scal rfl Tryz.sizeOf3 rfl rfl (Nat.le_of_ble_eq_true rfl) SetL.eq fil_nil)))) ?_))))
                  refine s_do rfl (d_sliceAgg Tryz.underlying232 Tryz.sizeOf238 Tryz.zeroValue238 rfl (elsK_cons rfl rfl elsK_nil) rfl (by decide) (by decide) (by decide)) ?_
                  rintro _ _ ⟨bv, rfl, rfl⟩
                  refine s_do rfl (d_call2 Tryz.call144 rfl (insRn_spec W0 _ rs a2 cc bv (f, k, w) (mtA rs f) hal (by omega))) ?_
                  rintro _ B_ ⟨a3, c3', rfl, hB_⟩
                  obtain rfl := hB_.symm
                  refine s_val rfl (v_nilCheck rfl) ?_
                  refine s_val rfl (v_fieldAddr rfl Tryz.underlying234 rfl Tryz.sizeOf232 rfl (by first | exact Nat.zero_add _ | rfl)) ?_
                  refine s_do0 (d_store Tryz.sizeOf232 rfl rfl rfl (Nat.le_of_ble_eq_true rfl) SetL.eq) ?_
                  rintro _ _ rfl
                  refine x_nil (n_then (x_seq (x_region (s_val rfl (v_assign rfl) (x_nil (n_then (x_ret (x_done (.inl rfl) (.cons (r_tmp rfl) .nil) ?_))))))))
                  rw [gvR, he, if_pos rfl]
                  exact ⟨_, ⟨rfl, rfl⟩, ent_tab (rnIns_len _ hal).symm rfl⟩
def whF : List Rn → Int → Option Int
  | [], _ => none
  | x :: l, i => if x.1 ≤ i ∧ i < x.1 + x.2.1 then some x.2.2 else whF l i
theorem whF_lt {rs : List Rn} (h : TbOk rs) : ∀ {x w : Int}, whF rs x = some w → 0 ≤ w ∧ w < 64 := by
  intro x w hw
  induction rs with
  | nil => cases hw
  | cons y l ih =>
    rw [whF] at hw
    split at hw
    · cases hw
      have := h y (by simp)
      exact ⟨this.2.2.2.1, this.2.2.2.2⟩
    · exact ih (fun z hz => h z (by simp [hz])) hw
end Go.Proofs.YtncegikenkpcmaaGreat
namespace Go.Proofs.YtncegikenkpcmaaGreat
open Go.RowKit
set_option linter.unusedSimpArgs false
set_option linter.unusedVariables false
set_option maxRecDepth 20000
def TbS (rs : List Rn) : Prop := rs.Pairwise fun x y => x.1 + x.2.1 ≤ y.1
theorem mtH_cons (x : Rn) (l : List Rn) (f k : Int) : mtH (x :: l) f k = if x.1 + x.2.1 ≤ f then mtH l f k else decide (x.1 < f + k) := by
  unfold mtH; rw [mtA]
  by_cases h : x.1 + x.2.1 ≤ f
  · simp only [if_pos h, List.getElem?_cons_succ]
  · simp only [if_neg h, List.getElem?_cons_zero]
theorem ins_cons (x y : Rn) (l : List Rn) (f : Int) : rnIns (x :: l) (mtA (x :: l) f) y = if x.1 + x.2.1 ≤ f then x :: rnIns l (mtA l f) y else y :: x :: l := by
  unfold rnIns; rw [mtA]
  by_cases h : x.1 + x.2.1 ≤ f
  · simp only [if_pos h, List.take_succ_cons, List.drop_succ_cons, List.cons_append]
  · simp only [if_neg h, List.take_zero, List.drop_zero, List.nil_append]
theorem whF_has {l : List Rn} {i : Int} (h : whF l i ≠ none) : ∃ y ∈ l, y.1 ≤ i ∧ i < y.1 + y.2.1 := by
  induction l with
  | nil => exact absurd rfl h
  | cons x l ih =>
    rw [whF] at h
    by_cases q : x.1 ≤ i ∧ i < x.1 + x.2.1
    · exact ⟨x, by simp, q⟩
    · rw [if_neg q] at h
      obtain ⟨y, hy, h2⟩ := ih h
      exact ⟨y, by simp [hy], h2⟩
theorem mtH_iff : ∀ {rs : List Rn} {f k : Int}, TbS rs → (∀ x ∈ rs, 1 ≤ x.2.1) → 1 ≤ k → (mtH rs f k = true ↔ ∃ i, f ≤ i ∧ i < f + k ∧ whF rs i ≠ none)
  | [], f, k, _, _, _ => by
    constructor
    · intro h; simp [mtH] at h
    · rintro ⟨i, _, _, h⟩; exact absurd rfl h
  | x :: l, f, k, hs, hp, hk => by
    obtain ⟨h1, h2⟩ := List.pairwise_cons.1 hs
    have hx := hp x (by simp)
    rw [mtH_cons]
    by_cases q : x.1 + x.2.1 ≤ f
    · rw [if_pos q, mtH_iff h2 (fun y hy => hp y (by simp [hy])) hk]
      constructor
      · rintro ⟨i, a, b, c⟩; exact ⟨i, a, b, by rw [whF, if_neg (by omega)]; exact c⟩
      · rintro ⟨i, a, b, c⟩; rw [whF, if_neg (by omega)] at c; exact ⟨i, a, b, c⟩
    · rw [if_neg q, decide_eq_true_iff]
      constructor
      · intro h
        by_cases q2 : f ≤ x.1
        · exact ⟨x.1, q2, h, by rw [whF, if_pos (by omega)]; simp⟩
        · exact ⟨f, Int.le_refl _, by omega, by rw [whF, if_pos (by omega)]; simp⟩
      · rintro ⟨i, a, b, c⟩
        rw [whF] at c
        by_cases q2 : x.1 ≤ i ∧ i < x.1 + x.2.1
        · omega
        · rw [if_neg q2] at c
          obtain ⟨y, hy, h3⟩ := whF_has c
          have := h1 y hy
          omega
theorem whF_ins : ∀ {rs : List Rn} {f k w : Int} (i : Int), whF (rnIns rs (mtA rs f) (f, k, w)) i = if f ≤ i ∧ i < f + k then some w else whF rs i
  | [], f, k, w, i => by
    show whF [(f, k, w)] i = _
    rw [whF, whF]; rfl
  | x :: l, f, k, w, i => by
    rw [ins_cons]
    by_cases q : x.1 + x.2.1 ≤ f
    · rw [if_pos q, whF, whF_ins i, whF]
      by_cases q2 : x.1 ≤ i ∧ i < x.1 + x.2.1
      · rw [if_pos q2, if_pos q2, if_neg (by omega)]
      · rw [if_neg q2, if_neg q2]
    · rw [if_neg q, whF]
theorem ins_mem {x y : Rn} {l : List Rn} {i : Nat} (h : x ∈ rnIns l i y) : x = y ∨ x ∈ l := by
  unfold rnIns at h
  rcases List.mem_append.1 h with q | q
  · exact .inr (List.mem_of_mem_take q)
  · rcases List.mem_cons.1 q with q | q
    · exact .inl q
    · exact .inr (List.mem_of_mem_drop q)
theorem ins_tbs : ∀ {rs : List Rn} {f k w : Int}, TbS rs → (∀ x ∈ rs, 1 ≤ x.2.1) → mtH rs f k = false → TbS (rnIns rs (mtA rs f) (f, k, w))
  | [], f, k, w, _, _, _ => List.pairwise_singleton _ _
  | x :: l, f, k, w, hs, hp, hm => by
    obtain ⟨h1, h2⟩ := List.pairwise_cons.1 hs
    have hx := hp x (by simp)
    rw [mtH_cons] at hm
    rw [ins_cons]
    by_cases q : x.1 + x.2.1 ≤ f
    · rw [if_pos q] at hm ⊢
      refine List.pairwise_cons.2 ⟨fun y hy => ?_, ins_tbs h2 (fun y hy => hp y (by simp [hy])) hm⟩
      rcases ins_mem hy with rfl | hy
      · exact q
      · exact h1 y hy
    · rw [if_neg q] at hm ⊢
      have hm := of_decide_eq_false hm
      refine List.pairwise_cons.2 ⟨fun y hy => ?_, hs⟩
      rcases List.mem_cons.1 hy with rfl | hy
      · show f + k ≤ _; omega
      · have := h1 y hy
        show f + k ≤ _; omega
theorem gvR_tbs {rs : List Rn} {n f k w : Int} (h : TbS rs) (hp : ∀ x ∈ rs, 1 ≤ x.2.1) : TbS (gvR rs n f k w) := by
  unfold gvR; split
  · rename_i he
    unfold gvE at he
    split at he
    · exact absurd he (by decide)
    · split at he
      · exact absurd he (by decide)
      · rename_i q; exact ins_tbs h hp (by simpa using q)
  · exact h
structure RT (rs : List Rn) (L : List Int) : Prop where
  at_ : ∀ i : Nat, i < L.length → L.getD i (-1) = (whF rs i).getD (-1)
  s : TbS rs
  ok : TbOk rs
def rpE (L : List Int) (f k w : Int) : Int := if f < 0 ∨ k < 1 ∨ (L.length : Int) < f ∨ L.length - f < k ∨ w < 0 ∨ 64 ≤ w then 1 else if (List.range k.toNat).any (fun i => decide (0 ≤ L.getD (f.toNat + i) (-1))) then 5 else 0
def rpS (L : List Int) (f k w : Int) : List Int := if rpE L f k w = 0 then (List.range L.length).map fun (i : Nat) => if f ≤ i ∧ (i : Int) < f + k then w else L.getD i (-1) else L
theorem rpS_len {L : List Int} {f k w : Int} : (rpS L f k w).length = L.length := by unfold rpS; split <;> simp
theorem whF_nn {rs : List Rn} (h : TbOk rs) {i : Int} : 0 ≤ (whF rs i).getD (-1) ↔ whF rs i ≠ none := by
  cases e : whF rs i with
  | none => simp
  | some w => have := whF_lt h e; simp; omega
theorem rt_any {rs : List Rn} {L : List Int} (h : RT rs L) {f k : Int} (hb : 0 ≤ f ∧ 1 ≤ k ∧ f + k ≤ L.length) : (List.range k.toNat).any (fun i => decide (0 ≤ L.getD (f.toNat + i) (-1))) = mtH rs f k := by
  rw [Bool.eq_iff_iff, mtH_iff h.s (fun x hx => (h.ok x hx).2.1) hb.2.1, List.any_eq_true]
  constructor
  · rintro ⟨i, hi, hd⟩
    have hi := List.mem_range.1 hi
    have hd := of_decide_eq_true hd
    rw [h.at_ _ (by omega)] at hd
    exact ⟨((f.toNat + i : Nat) : Int), by omega, by omega, (whF_nn h.ok).1 hd⟩
  · rintro ⟨i, a, b, c⟩
    refine ⟨(i - f).toNat, List.mem_range.2 (by omega), decide_eq_true ?_⟩
    rw [h.at_ _ (by omega), show ((f.toNat + (i - f).toNat : Nat) : Int) = i by omega]
    exact (whF_nn h.ok).2 c
theorem rt_e {rs : List Rn} {L : List Int} (h : RT rs L) {n : Int} (hn : n = L.length) (f k w : Int) : rpE L f k w = gvE rs n f k w := by
  unfold rpE gvE
  rw [hn]
  by_cases q : f < 0 ∨ k < 1 ∨ (L.length : Int) < f ∨ L.length - f < k ∨ w < 0 ∨ 64 ≤ w
  · rw [if_pos q, if_pos q]
  · rw [if_neg q, if_neg q, rt_any h (by omega)]
theorem rt_s {rs : List Rn} {L : List Int} (h : RT rs L) {n : Int} (hn : n = L.length) (h64 : n ≤ 64) (f k w : Int) : RT (gvR rs n f k w) (rpS L f k w) := by
  refine ⟨fun i hi => ?_, gvR_tbs h.s (fun x hx => (h.ok x hx).2.1), gvR_ok h.ok h64⟩
  rw [rpS_len] at hi
  unfold rpS gvR
  rw [rt_e h hn]
  by_cases q : gvE rs n f k w = 0
  · rw [if_pos q, if_pos q, whF_ins]
    simp only [List.getD, List.getElem?_map, List.getElem?_range hi, Option.map_some, Option.getD_some]
    by_cases q2 : f ≤ (i : Int) ∧ (i : Int) < f + k
    · rw [if_pos q2, if_pos q2]; rfl
    · rw [if_neg q2, if_neg q2]; exact h.at_ i hi
  · rw [if_neg q, if_neg q]; exact h.at_ i hi
theorem rt_nil (n : Nat) : RT [] (List.replicate n (-1)) := ⟨fun i hi => by simp at hi; simp [List.getD, hi, whF], List.Pairwise.nil, fun x hx => by simp at hx⟩
end Go.Proofs.YtncegikenkpcmaaGreat
namespace Go.Proofs.YtncegikenkpcmaaGreat
open Go.RowKit
set_option linter.unusedSimpArgs false
set_option linter.unusedVariables false
section
variable {P : Program} {W0 : World} {N : FSz} {e : Env} {A R : List HP} {t : TypeId} {v : Value} {x y : Operand} {l' ys : List Value}
theorem d_storeS {E sz n c g j : Nat} [h : Tk (osl E sz) (.slice (some ⟨g, 0, none⟩) n c) A ys R] (hs : ∀ w, (sizeOf t).run P w = .ok 1 w) (hx : ev e x = some (.pointer (some ⟨g, j, none⟩))) (hy : ev e y = some v)
    (h1 : v.oneCell' = true) (hj : j < ys.length) (hl : ys.set j v = l') : Does P W0 N e A (.store t x y) (fun _ B => B = osl E sz (.slice (some ⟨g, 0, none⟩) n c) l' :: R) := by
  intro a w dst ty pos af gd K Q hF hO k
  rcases (hO.tk (r := osl E sz) (b := .slice (some ⟨g, 0, none⟩) n c)).osl with ⟨k1, _, _⟩ | ⟨g', n', cap, sp, k1, k2, k3, k4, k5, k6⟩
  · cases k1
  · cases k1
    refine d_store (b := g) (l := ys ++ sp) hs hx hy h1 (by rw [List.length_append]; omega) rfl a w dst ty pos af gd K Q hF k6 fun v' w' B hp hO' => ?_
    subst hp
    refine k v' w' _ rfl (hO'.ent ?_)
    have e1 : (ys ++ sp).set j v = l' ++ sp := by rw [List.set_append_left _ _ hj, hl]
    rw [e1]
    exact ent_osl k2 k3 (by rw [← hl, List.length_set]; exact k4) (by rw [← hl, List.length_append, List.length_set, ← List.length_append]; exact k5)
theorem v_idxA {S : World → Prop} {E n c j sz o' b off : Nat} {k : IntKind} {i : Int} {a' : Option Addr} (hu : P.underlying t = some (.slice E)) (hs : ∀ w, (sizeOf E).run P w = .ok sz w) (hx : ev e x = some (.slice a' n c)) (ha : a' = some ⟨b, off, none⟩) (hy : ev e y = some (.int k i))
    (hi : i = (j : Int)) (hj : j < n) (ho : off + j * sz = o') : Val P S N e (.indexAddr t x y) (.pointer (some ⟨b, o', none⟩)) := by
  subst ha; exact v_idx hu hs hx hy hi hj ho
instance (priority := high) ent_nil {A : List HP} : Ent A [] := ⟨fun l _ => ⟨[], l, rfl, List.Perm.refl _⟩⟩
end
end Go.Proofs.YtncegikenkpcmaaGreat
namespace Go.Proofs.YtncegikenkpcmaaGreat
open Go.RowKit
set_option linter.unusedSimpArgs false
set_option linter.unusedVariables false
set_option maxRecDepth 20000
abbrev cfO (c : Cfg) : Obj := cob (cfgV c) 28
def rlA (c : Cfg) (i : Nat) : Rn := c.rl.getD i (0, 0, 0)
def rgT (c : Cfg) : Nat → List Rn
  | 0 => []
  | i + 1 => if vaL (rlA c i).1 c.cats = true then gvR (rgT c i) 32 (rlA c i).2.1 (rlA c i).2.2 i else rgT c i
theorem rgT_ok (c : Cfg) : ∀ i, TbOk (rgT c i) ∧ (rgT c i).length ≤ i ∧ TbS (rgT c i)
  | 0 => ⟨fun x hx => by simp [rgT] at hx, Nat.le_refl _, List.Pairwise.nil⟩
  | i + 1 => by
    obtain ⟨h1, h2, h3⟩ := rgT_ok c i
    rw [rgT]; split
    · exact ⟨gvR_ok h1 (by decide), Nat.le_trans gvR_len (by omega), gvR_tbs h3 fun x hx => (h1 x hx).2.1⟩
    · exact ⟨h1, by omega, h3⟩
def rgW (c : Cfg) (i : Nat) : Bool := !(vaL (rlA c i).1 c.cats && decide (gvE (rgT c i) 32 (rlA c i).2.1 (rlA c i).2.2 i = 0))
theorem ranges1_wf (W0 : World) (b1 b4 bt : Nat) (c : Cfg) (hl : c.rl.length ≤ 8) (hs : ∀ A, SlA (OwnP W0 A) c.ra 3 gsV c.rl) :
    WF W0 229 [.pointer (some ⟨b1, 0, none⟩), .pointer (some ⟨b4, 0, none⟩)] c.rl.length (fun i => grp [pt b1 (cfO c), pt b4 (cob [.pointer (some ⟨bt, 0, none⟩)] 144), tabH bt (rgT c i, 32)]) (rgW c) := ⟨Tryz.call229, fun i hi R => by
  refine spec_kgrp ?_
  simp only [List.cons_append, List.nil_append]
  obtain ⟨g, o, hra, hc⟩ := (hs (pt b1 (cfO c) :: R)).at_ hi
  obtain ⟨x, hx⟩ : ∃ x, c.rl[i] = x := ⟨_, rfl⟩
  have hA : rlA c i = x := by simp [rlA, List.getD, hi, hx]
  rw [hx] at hc
  obtain ⟨h1, h2, h3⟩ := rgT_ok c i
  have hT : rgT c (i + 1) = if vaL x.1 c.cats = true then gvR (rgT c i) 32 x.2.1 x.2.2 i else rgT c i := by rw [rgT, hA]
  have hW : rgW c i = !(vaL x.1 c.cats && decide (gvE (rgT c i) 32 x.2.1 x.2.2 i = 0)) := by rw [rgW, hA]
  rw [hT, hW]
  generalize rgT c i = T at h1 h2 h3 ⊢
  refine spec_body Tryz.func229 Tryz.ntmps229 rfl rfl ?_
  refine x_seq (x_region (s_val rfl (v_assign rfl) (x_nil (n_then (x_seq (x_region ?_))))))
  refine s_val rfl (v_fieldAddr rfl Tryz.underlying28 rfl Tryz.sizeOf23 rfl (by first | exact Nat.zero_add _ | rfl)) ?_
  refine s_val rfl (v_load Tryz.isAgg23 rfl (cell_own rfl)) ?_
  refine s_val rfl (v_move rfl) ?_
  refine s_val rfl (v_idxA Tryz.underlying23 Tryz.sizeOf151 rfl hra rfl rfl hi (by first | exact Nat.zero_add _ | rfl)) ?_
  refine s_val rfl (v_loadAgg Tryz.isAgg151 Tryz.sizeOf151 rfl hc.weak rfl) ?_
  refine s_do rfl (d_allocA Tryz.zeroValue151) ?_
  rintro _ _ ⟨bx, rfl, rfl⟩
  refine s_do0 (d_storeAll Tryz.sizeOf151 rfl rfl rfl rfl rfl) ?_
  rintro _ _ rfl
  refine x_nil (n_then (x_seq (x_region ?_)))
  refine s_val rfl (v_fieldAddr rfl Tryz.underlying151 rfl Tryz.sizeOf3 rfl (by first | exact Nat.zero_add _ | rfl)) ?_
  refine s_val rfl (v_load Tryz.isAgg3 rfl (cell_own rfl)) ?_
  refine s_val rfl (v_fieldAddr rfl Tryz.underlying28 rfl Tryz.sizeOf3 rfl (by first | exact Nat.zero_add _ | rfl)) ?_
  refine s_val rfl (v_load Tryz.isAgg3 rfl (cell_own rfl)) ?_
  refine s_do rfl (d_call Tryz.call228 rfl (lbValid_spec W0 _ x.1 c.cats)) ?_
  rintro _ B_ ⟨rfl, hB_⟩
  obtain rfl := hB_.symm
  refine s_val rfl (v_not rfl) (s_val rfl (v_move rfl) ?_)
  refine s_or rfl rfl rfl ?_ ?_
  · intro g2_7
    have hv : vaL x.1 c.cats = false := by first | exact g2_7 | simpa using g2_7
    rw [hv]
    refine s_no rfl rfl rfl rfl (s_no rfl rfl rfl rfl (s_no rfl rfl rfl rfl (s_no rfl rfl rfl rfl (s_no rfl rfl rfl rfl (s_no rfl rfl rfl rfl (s_no rfl rfl rfl rfl (s_val rfl (v_pick_t rfl rfl) (s_val rfl (v_assign rfl) (x_nil (n_then (x_ret (x_done (.inl rfl) (.cons (r_tmp rfl) .nil) ?_))))))))))))
    refine ⟨_, ⟨?_, rfl⟩, ?_⟩
    · refine congrArg Value.bool ?_
      first
        | rfl
        | (rw [Bool.true_and, bne, Bool.eq_iff_iff]; simp)
    · first
        | (rw [if_pos rfl]; exact inferInstance)
        | (rw [if_neg (by decide)]; exact inferInstance)
  · intro g2_7
    have hv : vaL x.1 c.cats = true := by first | exact g2_7 | simpa using g2_7
    rw [hv]
    refine s_val rfl (v_load Tryz.isAgg144 rfl (cell_own rfl)) ?_
    refine s_yes rfl rfl ?_
    refine s_val rfl (v_fieldAddr rfl Tryz.underlying151 rfl Tryz.sizeOf3 rfl (by first | exact Nat.zero_add _ | rfl)) ?_
    refine s_yes rfl rfl (s_val rfl (v_load Tryz.isAgg3 rfl (cell_own rfl)) ?_)
    refine s_yes rfl rfl ?_
    refine s_val rfl (v_fieldAddr rfl Tryz.underlying151 rfl Tryz.sizeOf3 rfl (by first | exact Nat.zero_add _ | rfl)) ?_
    refine s_yes rfl rfl (s_val rfl (v_load Tryz.isAgg3 rfl (cell_own rfl)) ?_)
    refine s_yes rfl rfl (s_val rfl (v_move rfl) (s_yes rfl rfl ?_))
    refine s_do rfl (d_call1 Tryz.call76 rfl (paGive_spec W0 _ bt T 32 (by decide) h1 (by omega) x.2.1 x.2.2 i)) ?_
    rintro _ B_ ⟨rfl, hB_⟩
    obtain rfl := hB_.symm
    refine s_yes rfl rfl (s_val rfl (v_neq rfl rfl) (s_val rfl (v_pick_f rfl rfl) (s_val rfl (v_assign rfl) (x_nil (n_then (x_ret (x_done (.inl rfl) (.cons (r_tmp rfl) .nil) ?_)))))))
    refine ⟨_, ⟨?_, rfl⟩, ?_⟩
    · refine congrArg Value.bool ?_
      first
        | rfl
        | (rw [Bool.true_and, bne, Bool.eq_iff_iff]; simp)
    · first
        | (rw [if_pos rfl]; exact inferInstance)
        | (rw [if_neg (by decide)]; exact inferInstance)
  ⟩
def raW (c : Cfg) : Bool := decide (8 < c.rl.length) || anyW (rgW c) c.rl.length
theorem cfRanges_spec (W0 : World) (R : List HP) (c : Cfg) (hs : ∀ A, SlA (OwnP W0 A) c.ra 3 gsV c.rl) :
    Spec Tryz.prog W0 177 [.agg (cfgV c).toArray] R (fun v B => ∃ r, v = .tuple #[.int .i64 r, .bool (raW c)] ∧ B = R) := by
  refine spec_body Tryz.func177 Tryz.ntmps177 rfl rfl ?_
  refine x_seq (x_region (s_do rfl (d_boxA rfl) ?_))
  rintro _ _ ⟨b1, rfl, rfl⟩
  refine s_val rfl (v_assign rfl) (s_val rfl (v_assign rfl) (x_nil (n_then (x_seq (x_seq (x_region ?_))))))
  refine s_val rfl (v_fieldAddr rfl Tryz.underlying28 rfl Tryz.sizeOf23 rfl (by first | exact Nat.zero_add _ | rfl)) ?_
  refine s_val rfl (v_load Tryz.isAgg23 rfl (cell_own rfl)) ?_
  refine s_val rfl (v_len_slice Tryz.underlying23 rfl) (s_val rfl (v_gtr rfl rfl) (x_nil (n_then ?_)))
  refine x_if rfl ?_ ?_
  · intro c1
    refine x_seq (x_region (s_val rfl (v_assign rfl) (s_val rfl (v_assign rfl) (x_nil (n_then (x_ret (r_then (x_done (.inl rfl) (.cons (r_tmp rfl) (.cons (r_tmp rfl) .nil)) ?_))))))))
    rw [raW, decide_eq_true (by omega), Bool.true_or]
    exact ⟨_, ⟨0, rfl, rfl⟩, inferInstance⟩
  · intro c1
    refine x_skip (n_then (x_seq (x_region ?_)))
    refine s_do rfl (d_call Tryz.call74 rfl (paNew_spec W0 _ 32 (by decide))) ?_
    rintro _ B_ ⟨bt, rfl, hB_⟩
    obtain rfl := hB_.symm
    refine s_val rfl (v_move rfl) (s_val rfl (v_extract rfl rfl) (s_val rfl (v_extract rfl rfl) (s_do rfl (d_alloc Tryz.zeroValue144 rfl) ?_)))
    rintro _ _ ⟨b4, rfl, rfl⟩
    refine s_do0 (d_store Tryz.sizeOf144 rfl rfl rfl (Nat.le_of_ble_eq_true rfl) SetL.eq) ?_
    rintro _ _ rfl
    refine s_val rfl (v_assign rfl) (x_nil (n_then (x_seq (run_ent (B := kH 0 (grp [pt b1 (cfO c), pt b4 (cob [.pointer (some ⟨bt, 0, none⟩)] 144), tabH bt ([], 32)]) :: R) inferInstance ?_))))
    refine run_kgrp ?_
    simp only [List.cons_append, List.nil_append]
    refine x_region ?_
    refine s_val rfl (v_fieldAddr rfl Tryz.underlying28 rfl Tryz.sizeOf23 rfl (by first | exact Nat.zero_add _ | rfl)) ?_
    refine s_val rfl (v_load Tryz.isAgg23 rfl (cell_own rfl)) ?_
    refine s_val rfl (v_len_slice Tryz.underlying23 rfl) (s_val rfl (v_mkFunc rfl rfl) ?_)
    refine s_do rfl (does_ent (B := kH 0 (grp [pt b1 (cfO c), pt b4 (cob [.pointer (some ⟨bt, 0, none⟩)] 144), tabH bt ([], 32)]) :: R) inferInstance (d_call Tryz.call192 rfl (cfFirst_spec W0 R 229 [.pointer (some ⟨b1, 0, none⟩), .pointer (some ⟨b4, 0, none⟩)] c.rl.length (fun i => grp [pt b1 (cfO c), pt b4 (cob [.pointer (some ⟨bt, 0, none⟩)] 144), tabH bt (rgT c i, 32)]) (rgW c) (ranges1_wf W0 b1 b4 bt c (by omega) hs) (by omega)))) ?_
    rintro _ B_ ⟨r, rfl, hB_⟩
    obtain rfl := hB_.symm
    refine s_val rfl (v_extract rfl rfl) (s_val rfl (v_extract rfl rfl) (s_val rfl (v_assign rfl) (s_val rfl (v_assign rfl) (x_nil (n_then (x_ret (x_done (.inl rfl) (.cons (r_tmp rfl) (.cons (r_tmp rfl) .nil)) ?_)))))))
    rw [raW, decide_eq_false (by omega), Bool.false_or]
    exact ⟨_, ⟨r, rfl, rfl⟩, inferInstance⟩
def tkn (c : Cfg) (g : Int) (k : Nat) : Bool := (c.pl.take k).any fun q => decide (q.2 = g)
theorem cfTaken_spec (W0 : World) (R : List HP) (c : Cfg) (g : Int) (k : Nat) (hk : k < c.pl.length) (hl : c.pl.length ≤ 8) (hcap : c.pl.length ≤ c.pc) (hs : ∀ A, SlA (OwnP W0 A) c.pa 2 pairV c.pl) :
    Spec Tryz.prog W0 232 [.agg (cfgV c).toArray, .int .i64 g, .int .i64 k] R (fun v B => v = .bool (tkn c g k) ∧ B = R) := by
  refine spec_body Tryz.func232 Tryz.ntmps232 rfl rfl ?_
  refine x_seq (x_region (s_do rfl (d_boxA rfl) ?_))
  rintro _ _ ⟨b1, rfl, rfl⟩
  refine s_val rfl (v_assign rfl) (x_nil (n_then (x_seq (x_seq (x_region ?_)))))
  refine s_val rfl (v_fieldAddr rfl Tryz.underlying28 rfl Tryz.sizeOf24 rfl (by first | exact Nat.zero_add _ | rfl)) ?_
  refine s_val rfl (v_load Tryz.isAgg24 rfl (cell_own rfl)) ?_
  refine s_val rfl (v_move rfl) ?_
  refine s_val rfl (v_sliceH Tryz.underlying24 Tryz.sizeOf100 rfl rfl (h := k) rfl (by omega)) ?_
  refine s_val rfl (v_len_slice Tryz.underlying24 rfl) (s_val rfl (v_move rfl) (x_nil (n_then (x_block ?_))))
  refine x_loop (fun i : Nat => i ≤ k ∧ ∀ j, j < i → (c.pl.getD j (0, 0)).2 ≠ g) (fun i => [(1, .int .i64 g), (12, .slice c.pa k c.pc), (13, .int .i64 k), (14, .int .i64 i)]) (fun _ => R) (fun i => k - i) 0 ?_ ?_ ?_ ?_
  · exact ⟨Nat.zero_le _, fun j hj => absurd hj (Nat.not_lt_zero _)⟩
  · repeat (first | exact sub_nil | refine sub_cons rfl ?_)
  · exact inferInstance
  · intro i ⟨hi, hI⟩
    refine x_seq (x_region (s_val rfl (v_lss rfl rfl) (x_nil (n_then (x_seq ?_)))))
    refine x_if rfl ?_ ?_
    · intro c2
      refine x_skip (n_then (x_seq (x_block (x_seq ?_))))
      have hi1 : i < c.pl.length := by omega
      have hik : i < k := by omega
      obtain ⟨gp, o, hpa, hc⟩ := (hs R).at_ hi1
      obtain ⟨x, hx⟩ : ∃ x, c.pl[i] = x := ⟨_, rfl⟩
      have hgd : c.pl.getD i (0, 0) = x := by simp [List.getD, hi1, hx]
      rw [hx] at hc
      refine x_region ?_
      refine s_val rfl (v_idxA Tryz.underlying24 Tryz.sizeOf100 rfl hpa rfl rfl hik (by first | exact Nat.zero_add _ | rfl)) ?_
      refine s_val rfl (v_loadAgg Tryz.isAgg100 Tryz.sizeOf100 rfl hc.weak rfl) ?_
      refine s_do rfl (d_allocA Tryz.zeroValue100) ?_
      rintro _ _ ⟨bx, rfl, rfl⟩
      refine s_do0 (d_storeAll Tryz.sizeOf100 rfl rfl rfl rfl rfl) ?_
      rintro _ _ rfl
      refine x_nil (n_then (x_seq (x_region ?_)))
      refine s_val rfl (v_fieldAddr rfl Tryz.underlying100 rfl Tryz.sizeOf3 rfl (by first | exact Nat.zero_add _ | rfl)) ?_
      refine s_val rfl (v_load Tryz.isAgg3 rfl (cell_own rfl)) ?_
      refine s_val rfl (v_move rfl) (s_val rfl (v_eql rfl rfl) (x_nil (n_then ?_)))
      refine x_if rfl ?_ ?_
      · intro c4
        refine x_seq (x_region (s_val rfl (v_assign rfl) (x_nil (n_then (x_ret (r_block (r_then (r_then (r_block (r_then (x_done (.inl rfl) (.cons (r_tmp rfl) .nil) ?_)))))))))))
        have ht : tkn c g k = true := by
          rw [tkn, List.any_eq_true]
          exact ⟨x, by rw [← hx]; exact List.mem_take_iff_getElem.2 ⟨i, by omega, rfl⟩, decide_eq_true c4⟩
        rw [ht]
        exact ⟨_, ⟨rfl, rfl⟩, inferInstance⟩
      · intro c4
        refine x_skip (n_block (n_then (x_region ?_)))
        refine s_val rfl (v_add rfl rfl (by first | exact w64 (by omega) | rfl)) ?_
        refine s_val rfl (v_move rfl) (x_nil (n_then ?_))
        refine inv_intro (i + 1) ?_ ?_ ?_ ?_
        · refine ⟨by omega, fun j hj => ?_⟩
          rcases Nat.lt_or_ge j i with q | q
          · exact hI j q
          · rw [show j = i by omega, hgd]; exact c4
        · omega
        · repeat (first | exact sub_nil | refine sub_cons rfl ?_)
        · exact inferInstance
    · intro c2
      refine x_exit (e_then (e_then (e_block (n_then (x_seq (x_region (s_val rfl (v_assign rfl) (x_nil (n_then (x_ret (x_done (.inl rfl) (.cons (r_tmp rfl) .nil) ?_)))))))))))
      have ht : tkn c g k = false := by
        rw [tkn, List.any_eq_false]
        intro x hx
        obtain ⟨j, hj, rfl⟩ := List.mem_take_iff_getElem.1 hx
        have := hI j (by omega)
        rw [show c.pl.getD j (0, 0) = c.pl[j]'(by omega) by simp [List.getD, show j < c.pl.length by omega]] at this
        simpa using this
      rw [ht]
      exact ⟨_, ⟨rfl, rfl⟩, inferInstance⟩
def prtW (c : Cfg) (i : Nat) : Bool := !vaL (c.pl.getD i (0, 0)).1 c.cats || (decide ((c.pl.getD i (0, 0)).2 ≠ -1) && (!isG c (c.pl.getD i (0, 0)).2 || decide ((c.pl.getD i (0, 0)).1 ≠ labG c (c.pl.getD i (0, 0)).2) || tkn c (c.pl.getD i (0, 0)).2 i))
theorem ports1_wf (W0 : World) (b1 : Nat) (c : Cfg) (hl : c.pl.length ≤ 8) (hcap : c.pl.length ≤ c.pc) (hs : ∀ A, SlA (OwnP W0 A) c.pa 2 pairV c.pl) (hgs : ∀ A, SlA (OwnP W0 A) c.ga 3 gsV c.gl) :
    WF W0 230 [.pointer (some ⟨b1, 0, none⟩)] c.pl.length (fun _ => grp [pt b1 (cfO c)]) (prtW c) := ⟨Tryz.call230, fun i hi R => by
  refine spec_kgrp ?_
  simp only [List.cons_append, List.nil_append]
  obtain ⟨g, o, hpa, hc⟩ := (hs (pt b1 (cfO c) :: R)).at_ hi
  obtain ⟨⟨p, q⟩, hx⟩ : ∃ x, c.pl[i] = x := ⟨_, rfl⟩
  have hgd : c.pl.getD i (0, 0) = (p, q) := by simp [List.getD, hi, hx]
  have hW : prtW c i = (!vaL p c.cats || (decide (q ≠ -1) && (!isG c q || decide (p ≠ labG c q) || tkn c q i))) := by rw [prtW, hgd]
  rw [hx] at hc
  rw [hW]
  have hrow : ∃ (gg og j : Nat) (vs : List Value), (∀ A, Cells (OwnP W0 A) gg (og + j * 3) vs) ∧ (isG c q = true → c.ga = some ⟨gg, og, none⟩ ∧ q = (j : Int) ∧ j < c.gl.length ∧ ∃ u : Int × Int × Int, vs = gsV u ∧ labG c q = u.1) := by
    cases hG : isG c q with
    | false => exact ⟨0, 0, 0, [], fun A k v hk => by simp at hk, fun h => by cases h⟩
    | true =>
      have hb : 0 ≤ q ∧ q < c.gl.length := of_decide_eq_true hG
      obtain ⟨j, rfl⟩ : ∃ j : Nat, q = (j : Int) := ⟨q.toNat, by omega⟩
      have hj : j < c.gl.length := by omega
      obtain ⟨gg, og, hga, _⟩ := (hgs []).at_ hj
      refine ⟨gg, og, j, gsV c.gl[j], fun A => ?_, fun _ => ⟨hga, rfl, hj, c.gl[j], rfl, ?_⟩⟩
      · obtain ⟨g2, o2, h2, hc2⟩ := (hgs A).at_ hj
        rw [hga] at h2; cases h2; exact hc2
      · rw [labG, Int.toNat_natCast]; simp [List.getD, hj]
  obtain ⟨gg, og, j, vs, hcv, hrw⟩ := hrow
  obtain ⟨w, hw⟩ : ∃ w, isG c q = w := ⟨_, rfl⟩
  rw [hw] at hrw ⊢
  refine spec_body Tryz.func230 Tryz.ntmps230 rfl rfl ?_
  refine x_seq (x_region (s_val rfl (v_assign rfl) (x_nil (n_then (x_seq (x_region ?_))))))
  refine s_val rfl (v_fieldAddr rfl Tryz.underlying28 rfl Tryz.sizeOf24 rfl (by first | exact Nat.zero_add _ | rfl)) ?_
  refine s_val rfl (v_load Tryz.isAgg24 rfl (cell_own rfl)) ?_
  refine s_val rfl (v_move rfl) ?_
  refine s_val rfl (v_idxA Tryz.underlying24 Tryz.sizeOf100 rfl hpa rfl rfl hi (by first | exact Nat.zero_add _ | rfl)) ?_
  refine s_val rfl (v_loadAgg Tryz.isAgg100 Tryz.sizeOf100 rfl hc.weak rfl) ?_
  refine s_do rfl (d_allocA Tryz.zeroValue100) ?_
  rintro _ _ ⟨bx, rfl, rfl⟩
  refine s_do0 (d_storeAll Tryz.sizeOf100 rfl rfl rfl rfl rfl) ?_
  rintro _ _ rfl
  refine x_nil (n_then (x_seq (x_block (x_seq (x_region ?_)))))
  refine s_val rfl (v_fieldAddr rfl Tryz.underlying100 rfl Tryz.sizeOf3 rfl (by first | exact Nat.zero_add _ | rfl)) ?_
  refine s_val rfl (v_load Tryz.isAgg3 rfl (cell_own rfl)) ?_
  refine s_val rfl (v_fieldAddr rfl Tryz.underlying28 rfl Tryz.sizeOf3 rfl (by first | exact Nat.zero_add _ | rfl)) ?_
  refine s_val rfl (v_load Tryz.isAgg3 rfl (cell_own rfl)) ?_
  refine s_do rfl (d_call Tryz.call228 rfl (lbValid_spec W0 _ p c.cats)) ?_
  rintro _ B_ ⟨rfl, hB_⟩
  obtain rfl := hB_.symm
  refine s_val rfl (v_not rfl) (s_val rfl (v_assign rfl) (x_nil (n_then ?_)))
  refine x_if rfl ?_ ?_
  · intro c2
    refine x_seq (x_region (s_val rfl (v_assign rfl) (x_nil (n_then (x_ret (r_block (r_then (x_done (.inl rfl) (.cons (r_tmp rfl) .nil) ?_))))))))
    have hv : vaL p c.cats = false := by first | exact c2 | simpa using c2
    rw [hv]
    exact ⟨_, ⟨rfl, rfl⟩, inferInstance⟩
  · intro c2
    have hv : vaL p c.cats = true := by first | exact c2 | simpa using c2
    rw [hv]
    refine x_seq (x_region ?_)
    refine s_val rfl (v_fieldAddr rfl Tryz.underlying100 rfl Tryz.sizeOf3 rfl (by first | exact Nat.zero_add _ | rfl)) ?_
    refine s_val rfl (v_load Tryz.isAgg3 rfl (cell_own rfl)) ?_
    refine s_val rfl (v_eql rfl rfl) (s_val rfl (v_assign rfl) (x_nil (n_then ?_)))
    refine x_if rfl ?_ ?_
    · intro c4
      refine x_seq (x_region (s_val rfl (v_assign rfl) (x_nil (n_then (x_ret (r_block (r_then (x_done (.inl rfl) (.cons (r_tmp rfl) .nil) ?_))))))))
      rw [decide_eq_false (by omega)]
      exact ⟨_, ⟨rfl, rfl⟩, inferInstance⟩
    · intro c4
      refine x_seq (x_region (s_val rfl (v_loadAll Tryz.isAgg28 Tryz.sizeOf28 rfl rfl) ?_))
      refine s_val rfl (v_fieldAddr rfl Tryz.underlying100 rfl Tryz.sizeOf3 rfl (by first | exact Nat.zero_add _ | rfl)) ?_
      refine s_val rfl (v_load Tryz.isAgg3 rfl (cell_own rfl)) ?_
      refine s_do rfl (d_call Tryz.call231 rfl (cfGuest_spec W0 _ c q)) ?_
      rintro _ B_ ⟨rfl, hB_⟩
      obtain rfl := hB_.symm
      rw [hw]
      refine s_val rfl (v_not rfl) (s_val rfl (v_assign rfl) (x_nil (n_then ?_)))
      refine x_if rfl ?_ ?_
      · intro c6
        refine x_seq (x_region (s_val rfl (v_assign rfl) (x_nil (n_then (x_ret (r_block (r_then (x_done (.inl rfl) (.cons (r_tmp rfl) .nil) ?_))))))))
        have hw0 : w = false := by first | exact c6 | simpa using c6
        rw [hw0, decide_eq_true (by omega)]
        exact ⟨_, ⟨rfl, rfl⟩, inferInstance⟩
      · intro c6
        obtain rfl : w = true := by first | exact c6 | simpa using c6
        obtain ⟨hga, hqj, hj, u, rfl, hlu⟩ := hrw rfl
        rw [hlu, decide_eq_true (by omega : q ≠ -1)]
        have hne : ¬ q = -1 := by omega
        refine x_skip (n_block (n_then (x_seq ?_)))
        refine x_draw [(b1, 0, cfgV c), (bx, 0, pairV (p, q)), (gg, og + j * 3, gsV u)] 18 mixed rfl (sc_own (sc_own (sc_cons (hcv _) sc_end))) (fun hS => ?_)
        refine d_take 0 rfl rfl (by kernel_rfl) (by kernel_rfl) (by kernel_rfl) rfl hS (v_fieldAddr rfl Tryz.underlying100 rfl Tryz.sizeOf3 rfl (by first | exact Nat.zero_add _ | rfl)) ?_
        refine d_take 1 rfl rfl (by kernel_rfl) (by kernel_rfl) (by kernel_rfl) rfl hS (v_load Tryz.isAgg3 rfl (by first | exact cell_sc0 (k := 0) rfl rfl | exact cell_sc0 (k := 1) rfl rfl | exact cell_sc0 (k := 2) rfl rfl | exact cell_sc0 (k := 3) rfl rfl)) ?_
        refine d_take 2 rfl rfl (by kernel_rfl) (by kernel_rfl) (by kernel_rfl) rfl hS (v_fieldAddr rfl Tryz.underlying28 rfl Tryz.sizeOf22 rfl (by first | exact Nat.zero_add _ | rfl)) ?_
        refine d_take 3 rfl rfl (by kernel_rfl) (by kernel_rfl) (by kernel_rfl) rfl hS (v_load Tryz.isAgg22 rfl (by first | exact cell_sc0 (k := 0) rfl rfl | exact cell_sc0 (k := 1) rfl rfl | exact cell_sc0 (k := 2) rfl rfl | exact cell_sc0 (k := 3) rfl rfl)) ?_
        refine d_take 4 rfl rfl (by kernel_rfl) (by kernel_rfl) (by kernel_rfl) rfl hS (v_fieldAddr rfl Tryz.underlying100 rfl Tryz.sizeOf3 rfl (by first | exact Nat.zero_add _ | rfl)) ?_
        refine d_take 5 rfl rfl (by kernel_rfl) (by kernel_rfl) (by kernel_rfl) rfl hS (v_load Tryz.isAgg3 rfl (by first | exact cell_sc0 (k := 0) rfl rfl | exact cell_sc0 (k := 1) rfl rfl | exact cell_sc0 (k := 2) rfl rfl | exact cell_sc0 (k := 3) rfl rfl)) ?_
        refine d_take 6 rfl rfl (by kernel_rfl) (by kernel_rfl) (by kernel_rfl) rfl hS (v_idxA Tryz.underlying22 Tryz.sizeOf95 rfl hga rfl hqj hj (by first | exact Nat.zero_add _ | rfl)) ?_
        refine d_take 7 rfl rfl (by kernel_rfl) (by kernel_rfl) (by kernel_rfl) rfl hS (v_fieldAddr rfl Tryz.underlying95 rfl Tryz.sizeOf3 rfl (by first | exact Nat.zero_add _ | rfl)) ?_
        refine d_take 8 rfl rfl (by kernel_rfl) (by kernel_rfl) (by kernel_rfl) rfl hS (v_load Tryz.isAgg3 rfl (cell_sc (k := 2) (j := 0) rfl rfl)) ?_
        refine d_take 9 rfl rfl (by kernel_rfl) (by kernel_rfl) (by kernel_rfl) rfl hS (v_neq rfl rfl) ?_
        refine d_take 10 rfl rfl (by kernel_rfl) (by kernel_rfl) (by kernel_rfl) rfl hS (v_move rfl) ?_
        refine x_split (t := 37) rfl ?_ ?_
        · intro g8_11
          refine d_skip 11 rfl rfl (by kernel_rfl) (by kernel_rfl) (by kernel_rfl) rfl hS ?_
          refine d_skip 12 rfl rfl (by kernel_rfl) (by kernel_rfl) (by kernel_rfl) rfl hS ?_
          refine d_skip 13 rfl rfl (by kernel_rfl) (by kernel_rfl) (by kernel_rfl) rfl hS ?_
          refine d_skip 14 rfl rfl (by kernel_rfl) (by kernel_rfl) (by kernel_rfl) rfl hS ?_
          refine d_skip 15 rfl rfl (by kernel_rfl) (by kernel_rfl) (by kernel_rfl) rfl hS ?_
          refine d_take 16 rfl rfl (by kernel_rfl) (by kernel_rfl) (by kernel_rfl) rfl hS (v_pick_t rfl rfl) ?_
          refine d_take 17 rfl rfl (by kernel_rfl) (by kernel_rfl) (by kernel_rfl) rfl hS (v_assign rfl) ?_
          refine d_done (by kernel_rfl) ?_; clear hS
          refine n_then (x_ret (x_done (.inl rfl) (.cons (r_tmp rfl) .nil) ?_))
          refine ⟨_, ⟨?_, rfl⟩, inferInstance⟩
          refine congrArg Value.bool ?_
          rw [Bool.eq_iff_iff]
          simp_all
        · intro g8_11
          refine d_take 11 rfl rfl (by kernel_rfl) (by kernel_rfl) (by kernel_rfl) rfl hS (v_loadAgg Tryz.isAgg28 Tryz.sizeOf28 rfl (by first | exact cells_sc (k := 0) rfl | exact cells_sc (k := 1) rfl | exact cells_sc (k := 2) rfl | exact cells_sc (k := 3) rfl) rfl) ?_
          refine d_take 12 rfl rfl (by kernel_rfl) (by kernel_rfl) (by kernel_rfl) rfl hS (v_fieldAddr rfl Tryz.underlying100 rfl Tryz.sizeOf3 rfl (by first | exact Nat.zero_add _ | rfl)) ?_
          refine d_take 13 rfl rfl (by kernel_rfl) (by kernel_rfl) (by kernel_rfl) rfl hS (v_load Tryz.isAgg3 rfl (by first | exact cell_sc0 (k := 0) rfl rfl | exact cell_sc0 (k := 1) rfl rfl | exact cell_sc0 (k := 2) rfl rfl | exact cell_sc0 (k := 3) rfl rfl)) ?_
          refine d_take 14 rfl rfl (by kernel_rfl) (by kernel_rfl) (by kernel_rfl) rfl hS (v_move rfl) ?_
          refine d_one 15 (by kernel_rfl) rfl rfl (d_call Tryz.call232 rfl (cfTaken_spec W0 _ c q i hi hl hcap hs)) rfl ?_; clear hS
          rintro _ B_ ⟨rfl, hB_⟩
          obtain rfl := hB_.symm
          refine ⟨(sc_own (sc_own (sc_cons (hcv _) sc_end))), fun hS => ?_⟩
          refine d_take 16 rfl rfl (by kernel_rfl) (by kernel_rfl) (by kernel_rfl) rfl hS (v_pick_f rfl rfl) ?_
          refine d_take 17 rfl rfl (by kernel_rfl) (by kernel_rfl) (by kernel_rfl) rfl hS (v_assign rfl) ?_
          refine d_done (by kernel_rfl) ?_; clear hS
          refine n_then (x_ret (x_done (.inl rfl) (.cons (r_tmp rfl) .nil) ?_))
          refine ⟨_, ⟨?_, rfl⟩, inferInstance⟩
          refine congrArg Value.bool ?_
          rw [Bool.eq_iff_iff]
          simp_all
  ⟩
def poW (c : Cfg) : Bool := decide (8 < c.pl.length) || anyW (prtW c) c.pl.length
theorem cfPorts_spec (W0 : World) (R : List HP) (c : Cfg) (hcap : c.pl.length ≤ c.pc) (hs : ∀ A, SlA (OwnP W0 A) c.pa 2 pairV c.pl) (hgs : ∀ A, SlA (OwnP W0 A) c.ga 3 gsV c.gl) :
    Spec Tryz.prog W0 178 [.agg (cfgV c).toArray] R (fun v B => ∃ r, v = .tuple #[.int .i64 r, .bool (poW c)] ∧ B = R) := by
  refine spec_body Tryz.func178 Tryz.ntmps178 rfl rfl ?_
  refine x_seq (x_region (s_do rfl (d_boxA rfl) ?_))
  rintro _ _ ⟨b1, rfl, rfl⟩
  refine s_val rfl (v_assign rfl) (s_val rfl (v_assign rfl) (x_nil (n_then (x_seq (x_seq (x_region ?_))))))
  refine s_val rfl (v_fieldAddr rfl Tryz.underlying28 rfl Tryz.sizeOf24 rfl (by first | exact Nat.zero_add _ | rfl)) ?_
  refine s_val rfl (v_load Tryz.isAgg24 rfl (cell_own rfl)) ?_
  refine s_val rfl (v_len_slice Tryz.underlying24 rfl) (s_val rfl (v_gtr rfl rfl) (x_nil (n_then ?_)))
  refine x_if rfl ?_ ?_
  · intro c1
    refine x_seq (x_region (s_val rfl (v_assign rfl) (s_val rfl (v_assign rfl) (x_nil (n_then (x_ret (r_then (x_done (.inl rfl) (.cons (r_tmp rfl) (.cons (r_tmp rfl) .nil)) ?_))))))))
    rw [poW, decide_eq_true (by omega), Bool.true_or]
    exact ⟨_, ⟨0, rfl, rfl⟩, inferInstance⟩
  · intro c1
    refine x_skip (n_then (x_seq (x_region ?_)))
    refine s_val rfl (v_fieldAddr rfl Tryz.underlying28 rfl Tryz.sizeOf24 rfl (by first | exact Nat.zero_add _ | rfl)) ?_
    refine s_val rfl (v_load Tryz.isAgg24 rfl (cell_own rfl)) ?_
    refine s_val rfl (v_len_slice Tryz.underlying24 rfl) (s_val rfl (v_mkFunc rfl rfl) ?_)
    refine s_do rfl (d_call1 Tryz.call192 rfl (cfFirst1_spec W0 _ 230 [.pointer (some ⟨b1, 0, none⟩)] c.pl.length b1 _ (prtW c) (ports1_wf W0 b1 c (by omega) hcap hs hgs) (by omega))) ?_
    rintro _ B_ ⟨r, rfl, hB_⟩
    obtain rfl := hB_.symm
    refine s_val rfl (v_extract rfl rfl) (s_val rfl (v_extract rfl rfl) (s_val rfl (v_assign rfl) (s_val rfl (v_assign rfl) (x_nil (n_then (x_ret (x_done (.inl rfl) (.cons (r_tmp rfl) (.cons (r_tmp rfl) .nil)) ?_)))))))
    rw [poW, decide_eq_false (by omega), Bool.false_or]
    exact ⟨_, ⟨r, rfl, rfl⟩, inferInstance⟩
end Go.Proofs.YtncegikenkpcmaaGreat
namespace Go.Proofs.YtncegikenkpcmaaGreat
open Go.RowKit
set_option linter.unusedSimpArgs false
set_option linter.unusedVariables false
set_option maxRecDepth 20000
structure CfOk (W0 : World) (c : Cfg) : Prop where
  g : ∀ A, SlA (OwnP W0 A) c.ga 3 gsV c.gl
  r : ∀ A, SlA (OwnP W0 A) c.ra 3 gsV c.rl
  p : ∀ A, SlA (OwnP W0 A) c.pa 2 pairV c.pl
  n : ∀ A, SlA (OwnP W0 A) c.na 2 pairV c.nl
  s : ∀ A, SlA (OwnP W0 A) c.sa 2 pairV c.sl
  pc : c.pl.length ≤ c.pc
def LKs (W0 : World) (c : Cfg) (C : HP) (l : List (Value × Int × Bool)) : Prop := ∀ x ∈ l, ∃ fn cs, x.1 = .func (.func fn) #[] cs.toArray ∧ (∀ args w, (callFunc fn args).run Tryz.prog w = .ok (.enter fn args) w) ∧
  ∀ R, Spec Tryz.prog W0 fn ([] ++ [.agg (cfgV c).toArray] ++ cs) (kH 0 C :: R) (fun v B => ∃ r, v = .tuple #[.int .i64 r, .bool x.2.2] ∧ B = kH 0 C :: R)
def lkE : List (Value × Int × Bool) → Int
  | [] => 0
  | x :: t => if x.2.2 then x.2.1 else lkE t
theorem lkE_at : ∀ (l : List (Value × Int × Bool)) (i : Nat) (hi : i < l.length), (∀ j (hj : j < l.length), j < i → l[j].2.2 = false) → l[i].2.2 = true → lkE l = l[i].2.1
  | x :: t, 0, _, _, h => by rw [lkE, if_pos (by simpa using h)]; rfl
  | x :: t, i + 1, hi, h1, h2 => by
    have h0 := h1 0 (by simp) (by omega)
    rw [lkE, if_neg (by simpa using h0), lkE_at t i (by simpa using hi) (fun j hj hji => by
      have := h1 (j + 1) (by simpa using hj) (by omega)
      simpa using this) (by simpa using h2)]
    simp
theorem lkE_none : ∀ (l : List (Value × Int × Bool)), (∀ j (hj : j < l.length), l[j].2.2 = false) → lkE l = 0
  | [], _ => rfl
  | x :: t, h => by
    have h0 := h 0 (by simp)
    rw [lkE, if_neg (by simpa using h0), lkE_none t (fun j hj => by
      have := h (j + 1) (by simpa using hj)
      simpa using this)]
def lkV (x : Value × Int × Bool) : List Value := [x.1, .int .i64 x.2.1]
def cfL (c : Cfg) (bg : Nat) : List (Value × Int × Bool) := [(.func (.func 176) #[] #[], 13, grW c), (.func (.func 177) #[] #[], 14, raW c), (.func (.func 178) #[] #[], 15, poW c), (.func (.func 179) #[] #[], 16, riW c), (.func (.func 180) #[] #[], 17, slW c), (.func (.func 175) #[] #[.pointer (some ⟨bg, 0, none⟩)], 18, gtW c)]
theorem check11_spec (W0 : World) (R : List HP) (bg : Nat) (x : Bool) (c : Cfg) : Spec Tryz.prog W0 175 [.agg (cfgV c).toArray, .pointer (some ⟨bg, 0, none⟩)] (pt bg (cob [.bool x] 4) :: R) (fun v B => v = .tuple #[.int .i64 0, .bool x] ∧ B = pt bg (cob [.bool x] 4) :: R) := by
  refine spec_body Tryz.func175 Tryz.ntmps175 rfl rfl ?_
  refine x_seq (x_region (s_do rfl (d_boxA rfl) ?_))
  rintro _ _ ⟨b2, rfl, rfl⟩
  refine s_val rfl (v_assign rfl) (s_val rfl (v_assign rfl) (x_nil (n_then (x_seq ?_))))
  refine x_draw [(bg, 0, _)] 3 mixed rfl (sc_own sc_end) (fun hS => ?_)
  refine d_take 0 rfl rfl (by kernel_rfl) (by kernel_rfl) (by kernel_rfl) rfl hS (v_load Tryz.isAgg4 rfl (cell_sc0 (k := 0) rfl rfl)) ?_
  refine d_take 1 rfl rfl (by kernel_rfl) (by kernel_rfl) (by kernel_rfl) rfl hS (v_assign rfl) ?_
  refine d_take 2 rfl rfl (by kernel_rfl) (by kernel_rfl) (by kernel_rfl) rfl hS (v_assign rfl) ?_
  refine d_done (by kernel_rfl) ?_; clear hS
  refine n_then (x_ret (x_done (.inl rfl) (.cons (r_tmp rfl) (.cons (r_tmp rfl) .nil)) ?_))
  exact ⟨_, ⟨rfl, rfl⟩, inferInstance⟩
theorem check1_spec (W0 : World) (R : List HP) (x : Bool) : Spec Tryz.prog W0 174 [.bool x] R (fun v B => ∃ bg, v = .func (.func 175) #[] #[.pointer (some ⟨bg, 0, none⟩)] ∧ B = pt bg (cob [.bool x] 4) :: R) := by
  refine spec_body Tryz.func174 Tryz.ntmps174 rfl rfl ?_
  refine x_seq (x_region (s_do rfl (d_box rfl rfl) ?_))
  rintro _ _ ⟨bg, rfl, rfl⟩
  refine s_val rfl (v_assign rfl) (x_nil (n_then (x_seq (x_region (s_val rfl (v_mkFunc rfl rfl) ?_)))))
  refine s_val rfl (v_assign rfl) (x_nil (n_then (x_ret (x_done (.inl rfl) (.cons (r_tmp rfl) .nil) ?_))))
  exact ⟨_, ⟨bg, rfl, rfl⟩, inferInstance⟩
theorem cfL_ok (W0 : World) (c : Cfg) (h : CfOk W0 c) (bg : Nat) : LKs W0 c (grp [pt bg (cob [.bool (gtW c)] 4)]) (cfL c bg) := by
  intro x hx
  simp only [cfL, List.mem_cons, List.not_mem_nil, or_false] at hx
  rcases hx with rfl | rfl | rfl | rfl | rfl | rfl
  · exact ⟨_, [], rfl, Tryz.call176, fun R => cfGuests_spec W0 _ c h.g⟩
  · exact ⟨_, [], rfl, Tryz.call177, fun R => cfRanges_spec W0 _ c h.r⟩
  · exact ⟨_, [], rfl, Tryz.call178, fun R => cfPorts_spec W0 _ c h.pc h.p h.g⟩
  · exact ⟨_, [], rfl, Tryz.call179, fun R => cfRings_spec W0 _ c h.n h.g⟩
  · exact ⟨_, [], rfl, Tryz.call180, fun R => cfSlots_spec W0 _ c h.s⟩
  · exact ⟨_, [.pointer (some ⟨bg, 0, none⟩)], rfl, Tryz.call175, fun R => spec_kgrp (spec_post (check11_spec W0 R bg (gtW c) c) fun v B hB => by
      obtain ⟨rfl, rfl⟩ := hB
      exact ⟨_, ⟨0, rfl, rfl⟩, inferInstance⟩)⟩
def ckE (c : Cfg) : Int := if c.cats < 0 ∨ 8 < c.cats then 12 else if grW c then 13 else if raW c then 14 else if poW c then 15 else if riW c then 16 else if slW c then 17 else if gtW c then 18 else if 32 < ndK c c.gl.length then 19 else 0
theorem ckE_lk (c : Cfg) (bg : Nat) (h : ¬ (c.cats < 0 ∨ 8 < c.cats)) : ckE c = if lkE (cfL c bg) = 0 ∧ 32 < ndK c c.gl.length then 19 else lkE (cfL c bg) := by
  rw [ckE, if_neg h]
  simp only [cfL, lkE]
  generalize grW c = a1; generalize raW c = a2; generalize poW c = a3; generalize riW c = a4; generalize slW c = a5; generalize gtW c = a6
  cases a1 <;> cases a2 <;> cases a3 <;> cases a4 <;> cases a5 <;> cases a6 <;> simp
theorem anyW_false {w : Nat → Bool} {n i : Nat} (h : anyW w n = false) (hi : i < n) : w i = false := by
  rw [← Bool.not_eq_true]; intro q
  rw [anyW_yes hi q] at h; cases h
theorem grW_no {c : Cfg} (h : grW c = false) : 1 ≤ c.gl.length ∧ c.gl.length ≤ 4 ∧ ∀ g ∈ c.gl, vaL g.1 c.cats = true ∧ 1 ≤ g.2.1 ∧ g.2.1 ≤ 8 ∧ 0 ≤ g.2.2 ∧ g.2.2 ≤ 8 - g.2.1 := by
  simp only [grW, Bool.or_eq_false_iff, decide_eq_false_iff_not] at h
  obtain ⟨h1, h2⟩ := h
  refine ⟨by omega, by omega, fun g hg => ?_⟩
  obtain ⟨i, hi, rfl⟩ := List.getElem_of_mem hg
  have := anyW_false h2 hi
  rw [show c.gl.getD i (0, 0, 0) = c.gl[i] by simp [List.getD, hi]] at this
  exact gstW_no.1 this
theorem raW_no {c : Cfg} (h : raW c = false) : c.rl.length ≤ 8 ∧ ∀ r ∈ c.rl, vaL r.1 c.cats = true ∧ 0 ≤ r.2.1 ∧ 1 ≤ r.2.2 ∧ r.2.1 + r.2.2 ≤ 32 := by
  simp only [raW, Bool.or_eq_false_iff, decide_eq_false_iff_not] at h
  obtain ⟨h1, h2⟩ := h
  refine ⟨by omega, fun r hr => ?_⟩
  obtain ⟨i, hi, rfl⟩ := List.getElem_of_mem hr
  have := anyW_false h2 hi
  rw [rgW, show rlA c i = c.rl[i] by simp [rlA, List.getD, hi], Bool.not_eq_false', Bool.and_eq_true, decide_eq_true_iff] at this
  obtain ⟨q1, q2⟩ := this
  refine ⟨q1, ?_⟩
  unfold gvE at q2
  split at q2
  · exact absurd q2 (by decide)
  · omega
theorem cfCheck_spec (W0 : World) (R : List HP) (c : Cfg) (h : CfOk W0 c) :
    Spec Tryz.prog W0 108 [.agg (cfgV c).toArray] R (fun v B => ∃ at_, v = .tuple #[.int .i64 (ckE c), .int .i64 at_] ∧ B = R) := by
  refine spec_body Tryz.func108 Tryz.ntmps108 rfl rfl ?_
  refine x_seq (x_region (s_do rfl (d_boxA rfl) ?_))
  rintro _ _ ⟨b1, rfl, rfl⟩
  refine s_val rfl (v_assign rfl) (s_val rfl (v_assign rfl) (x_nil (n_then (x_scope (x_seq (x_region (s_val rfl (v_assign rfl) (x_nil (n_then (x_seq (x_seq (x_region ?_))))))))))))
  refine s_val rfl (v_fieldAddr rfl Tryz.underlying28 rfl Tryz.sizeOf3 rfl (by first | exact Nat.zero_add _ | rfl)) ?_
  refine s_val rfl (v_load Tryz.isAgg3 rfl (cell_own rfl)) ?_
  refine s_val rfl (v_lss rfl rfl) (s_val rfl (v_move rfl) ?_)
  refine s_or rfl rfl rfl ?_ ?_
  · intro g2_4
    refine s_no rfl rfl rfl rfl (s_no rfl rfl rfl rfl (s_val rfl (v_pick_t rfl rfl) (x_nil (n_then (x_ift rfl (x_seq (x_region (s_val rfl (v_assign rfl) (s_val rfl (v_assign rfl) (x_nil (n_then (x_ret (r_then (r_scope (x_done (.inl rfl) (.cons (r_tmp rfl) (.cons (r_tmp rfl) .nil)) ?_)))))))))))))))
    have he : ckE c = 12 := by rw [ckE, if_pos (by omega)]
    rw [he]
    exact ⟨_, ⟨0, rfl, rfl⟩, inferInstance⟩
  · intro g2_4
    refine s_val rfl (v_fieldAddr rfl Tryz.underlying28 rfl Tryz.sizeOf3 rfl (by first | exact Nat.zero_add _ | rfl)) ?_
    refine s_yes rfl rfl (s_val rfl (v_load Tryz.isAgg3 rfl (cell_own rfl)) ?_)
    refine s_yes rfl rfl (s_val rfl (v_gtr rfl rfl) (s_val rfl (v_pick_f rfl rfl) (x_nil (n_then ?_))))
    refine x_if rfl ?_ ?_
    · intro c2
      refine x_seq (x_region (s_val rfl (v_assign rfl) (s_val rfl (v_assign rfl) (x_nil (n_then (x_ret (r_then (r_scope (x_done (.inl rfl) (.cons (r_tmp rfl) (.cons (r_tmp rfl) .nil)) ?_)))))))))
      have he : ckE c = 12 := by rw [ckE, if_pos (by omega)]
      rw [he]
      exact ⟨_, ⟨0, rfl, rfl⟩, inferInstance⟩
    · intro c2
      refine x_skip (n_then (x_seq (x_region (s_val rfl (v_assign rfl) (s_val rfl (v_assign rfl) (x_nil (n_then (x_seq (x_label (n_then ?_))))))))))
      refine x_cut (fun e : Int × Int => e.1 = lkE (cfL c 0) ∧ ¬ (c.cats < 0 ∨ 8 < c.cats)) (fun e => [(1, .pointer (some ⟨b1, 0, none⟩)), (5, .int .i64 e.2), (6, .int .i64 e.1)]) (fun _ => pt b1 (cfO c) :: R) ?_ ?_
      · skip
        refine x_seq (x_region (s_val rfl (v_build Tryz.underlying273 Tryz.zeroValue273 (sized_cons Tryz.sizeOf270 (sized_cons Tryz.sizeOf58 sized_nil)) (fil_scal rfl Tryz.sizeOf270 rfl rfl (Nat.le_of_ble_eq_true rfl) SetL.eq (fil_scal rfl Tryz.sizeOf58 rfl rfl (Nat.le_of_ble_eq_true rfl) SetL.eq fil_nil))) ?_))
        refine s_val rfl (v_build Tryz.underlying273 Tryz.zeroValue273 (sized_cons Tryz.sizeOf270 (sized_cons Tryz.sizeOf58 sized_nil)) (fil_scal rfl Tryz.sizeOf270 rfl rfl (Nat.le_of_ble_eq_true rfl) SetL.eq (fil_scal rfl Tryz.sizeOf58 rfl rfl (Nat.le_of_ble_eq_true rfl) SetL.eq fil_nil))) ?_
        refine s_val rfl (v_build Tryz.underlying273 Tryz.zeroValue273 (sized_cons Tryz.sizeOf270 (sized_cons Tryz.sizeOf58 sized_nil)) (fil_scal rfl Tryz.sizeOf270 rfl rfl (Nat.le_of_ble_eq_true rfl) SetL.eq (fil_scal rfl Tryz.sizeOf58 rfl rfl (Nat.le_of_ble_eq_true rfl) SetL.eq fil_nil))) ?_
        refine s_val rfl (v_build Tryz.underlying273 Tryz.zeroValue273 (sized_cons Tryz.sizeOf270 (sized_cons Tryz.sizeOf58 sized_nil)) (fil_scal rfl Tryz.sizeOf270 rfl rfl (Nat.le_of_ble_eq_true rfl) SetL.eq (fil_scal rfl Tryz.sizeOf58 rfl rfl (Nat.le_of_ble_eq_true rfl) SetL.eq fil_nil))) ?_
        refine s_val rfl (v_build Tryz.underlying273 Tryz.zeroValue273 (sized_cons Tryz.sizeOf270 (sized_cons Tryz.sizeOf58 sized_nil)) (fil_scal rfl Tryz.sizeOf270 rfl rfl (Nat.le_of_ble_eq_true rfl) SetL.eq (fil_scal rfl Tryz.sizeOf58 rfl rfl (Nat.le_of_ble_eq_true rfl) SetL.eq fil_nil))) ?_
        refine s_val rfl (v_move rfl) (s_val rfl (v_loadAll Tryz.isAgg28 Tryz.sizeOf28 rfl rfl) ?_)
        refine s_do rfl (d_call Tryz.call181 rfl (cfGate_spec W0 _ c)) ?_
        rintro _ B_ ⟨rfl, hB_⟩
        obtain rfl := hB_.symm
        refine s_do rfl (d_callv rfl Tryz.call174 rfl (check1_spec W0 _ (gtW c))) ?_
        rintro _ B_ ⟨bg, rfl, hB_⟩
        obtain rfl := hB_.symm
        refine s_val rfl (v_build Tryz.underlying273 Tryz.zeroValue273 (sized_cons Tryz.sizeOf270 (sized_cons Tryz.sizeOf58 sized_nil)) (fil_scal rfl Tryz.sizeOf270 rfl rfl (Nat.le_of_ble_eq_true rfl) SetL.eq (fil_scal rfl Tryz.sizeOf58 rfl rfl (Nat.le_of_ble_eq_true rfl) SetL.eq fil_nil))) ?_
        refine s_do rfl (d_sliceAgg Tryz.underlying274 Tryz.sizeOf273 Tryz.zeroValue273 rfl (elsK_cons rfl rfl (elsK_cons rfl rfl (elsK_cons rfl rfl (elsK_cons rfl rfl (elsK_cons rfl rfl (elsK_cons rfl rfl elsK_nil)))))) rfl (by decide) (by decide) (by decide)) ?_
        rintro _ _ ⟨bl, rfl, rfl⟩
        refine run_pt (b := bl) (o' := cob ((cfL c bg).flatMap lkV) 273) rfl ?_
        refine s_val rfl (v_len_slice Tryz.underlying274 rfl) (s_val rfl (v_move rfl) (x_nil (n_then (x_block ?_))))
        refine x_loop (fun i : Nat => i ≤ 6 ∧ ∀ j (hj : j < (cfL c bg).length), j < i → ((cfL c bg)[j]).2.2 = false) (fun i => [(1, .pointer (some ⟨b1, 0, none⟩)), (5, .int .i64 0), (6, .int .i64 0), (29, .slice (some ⟨bl, 0, none⟩) 6 6), (30, .int .i64 6), (31, .int .i64 i)]) (fun _ => pt bl (cob ((cfL c bg).flatMap lkV) 273) :: pt b1 (cfO c) :: kH 0 (grp [pt bg (cob [.bool (gtW c)] 4)]) :: R) (fun i => 6 - i) 0 ?_ ?_ ?_ ?_
        · exact ⟨Nat.zero_le _, fun j hj q => absurd q (Nat.not_lt_zero _)⟩
        · repeat (first | exact sub_nil | refine sub_cons rfl ?_)
        · exact inferInstance
        · intro i ⟨hi, hI⟩
          refine x_seq (x_region (s_val rfl (v_lss rfl rfl) (x_nil (n_then (x_seq ?_)))))
          refine x_if rfl ?_ ?_
          · intro c6
            refine x_skip (n_then (x_seq (x_block (x_seq ?_))))
            have hi1 : i < 6 := by omega
            have hlen : (cfL c bg).length = 6 := rfl
            have hil : i < (cfL c bg).length := by rw [hlen]; exact hi1
            have hok := cfL_ok W0 c h bg (cfL c bg)[i] (List.getElem_mem hil)
            have hEq := lkE_at (cfL c bg) i hil hI
            have hnx : (cfL c bg)[i].2.2 = false → ∀ j (hj : j < (cfL c bg).length), j < i + 1 → ((cfL c bg)[j]).2.2 = false := fun q j hj hji => by
              rcases Nat.lt_or_ge j i with q2 | q2
              · exact hI j hj q2
              · obtain rfl : j = i := by omega
                exact q
            have hcell : Cells (OwnP W0 (pt bl (cob ((cfL c bg).flatMap lkV) 273) :: pt b1 (cfO c) :: kH 0 (grp [pt bg (cob [.bool (gtW c)] 4)]) :: R)) bl (i * 2) (lkV (cfL c bg)[i]) := by
              obtain ⟨b, off, e1, hc⟩ := sla_pt (W0 := W0) (A := pt bl (cob ((cfL c bg).flatMap lkV) 273) :: pt b1 (cfO c) :: kH 0 (grp [pt bg (cob [.bool (gtW c)] 4)]) :: R) (f := lkV) (sz := 2) (xs := cfL c bg) (b := bl) (fun _ => rfl) rfl i (cfL c bg)[i] (by simp [hil])
              cases e1
              rwa [Nat.zero_add] at hc
            generalize hy : (cfL c bg)[i] = y at hok hEq hnx hcell
            obtain ⟨yv, ye, yb⟩ := y
            obtain ⟨fn, cs, rfl, hcall, hsp⟩ := hok
            dsimp only at hEq hnx hsp
            refine x_region ?_
            refine s_val rfl (v_idx Tryz.underlying274 Tryz.sizeOf273 rfl rfl rfl hi1 (by first | exact Nat.zero_add _ | rfl)) ?_
            refine s_val rfl (v_loadAgg Tryz.isAgg273 Tryz.sizeOf273 rfl hcell rfl) ?_
            refine s_do rfl (d_allocA Tryz.zeroValue273) ?_
            rintro _ _ ⟨bx, rfl, rfl⟩
            refine s_do0 (d_storeAll Tryz.sizeOf273 rfl rfl rfl rfl rfl) ?_
            rintro _ _ rfl
            refine x_nil (n_then (x_seq (x_region ?_)))
            refine s_val rfl (v_fieldAddr rfl Tryz.underlying273 rfl Tryz.sizeOf270 rfl (by first | exact Nat.zero_add _ | rfl)) ?_
            refine s_val rfl (v_load Tryz.isAgg270 rfl (cell_own rfl)) ?_
            refine s_val rfl (v_loadAll Tryz.isAgg28 Tryz.sizeOf28 rfl rfl) ?_
            refine s_do rfl (d_callv1 (us := []) (cs := cs) rfl hcall rfl (hsp _)) ?_
            rintro _ B_ ⟨r_, rfl, hB_⟩
            obtain rfl := hB_.symm
            refine s_val rfl (v_move rfl) (s_val rfl (v_extract rfl rfl) (s_val rfl (v_extract rfl rfl) (s_val rfl (v_assign rfl) (s_val rfl (v_assign rfl) (x_nil (n_then (x_seq (x_region (s_val rfl (v_move rfl) (x_nil (n_then ?_)))))))))))
            refine x_if rfl ?_ ?_
            · intro c9
              refine x_seq ?_
              refine x_draw [(bx, 0, _)] 5 mixed rfl (sc_own sc_end) (fun hS => ?_)
              refine d_take 0 rfl rfl (by kernel_rfl) (by kernel_rfl) (by kernel_rfl) rfl hS (v_move rfl) ?_
              refine d_take 1 rfl rfl (by kernel_rfl) (by kernel_rfl) (by kernel_rfl) rfl hS (v_fieldAddr rfl Tryz.underlying273 rfl Tryz.sizeOf58 rfl (by first | exact Nat.zero_add _ | rfl)) ?_
              refine d_take 2 rfl rfl (by kernel_rfl) (by kernel_rfl) (by kernel_rfl) rfl hS (v_load Tryz.isAgg58 rfl (cell_sc0 (k := 0) rfl rfl)) ?_
              refine d_take 3 rfl rfl (by kernel_rfl) (by kernel_rfl) (by kernel_rfl) rfl hS (v_assign rfl) ?_
              refine d_take 4 rfl rfl (by kernel_rfl) (by kernel_rfl) (by kernel_rfl) rfl hS (v_assign rfl) ?_
              refine d_done (by kernel_rfl) ?_; clear hS
              refine n_then (x_exit (e_block_ne rfl (e_then (e_then (e_block (n_then ?_))))))
              refine mid_intro (ye, r_) ?_ ?_ ?_
              · exact ⟨(hEq c9).symm, by omega⟩
              · repeat (first | exact sub_nil | refine sub_cons rfl ?_)
              · exact inferInstance
            · intro c9
              refine x_skip (n_block (n_then (x_region ?_)))
              refine s_val rfl (v_add rfl rfl (by first | exact w64 (by omega) | rfl)) ?_
              refine s_val rfl (v_move rfl) (x_nil (n_then ?_))
              refine inv_intro (i + 1) ?_ ?_ ?_ ?_
              · exact ⟨by omega, hnx (by simpa using c9)⟩
              · omega
              · repeat (first | exact sub_nil | refine sub_cons rfl ?_)
              · exact inferInstance
          · intro c6
            refine x_exit (e_then (e_then (e_block (n_then ?_))))
            refine mid_intro ((0 : Int), (0 : Int)) ?_ ?_ ?_
            · obtain rfl : i = 6 := by omega
              exact ⟨(lkE_none _ fun j hj => hI j hj (by have : (cfL c bg).length = 6 := rfl; omega)).symm, by omega⟩
            · repeat (first | exact sub_nil | refine sub_cons rfl ?_)
            · exact inferInstance
      · intro ⟨e, at_⟩ ⟨he, hcat⟩
        dsimp only at he ⊢
        have hce := ckE_lk c 0 hcat
        rw [← he] at hce
        refine x_seq (x_seq (x_region (s_val rfl (v_move rfl) (s_val rfl (v_eql rfl rfl) (s_val rfl (v_move rfl) ?_)))))
        refine s_and rfl rfl rfl ?_ ?_
        · intro g12_3
          have hall : lkE (cfL c 0) = 0 := by rw [← he]; exact g12_3
          have hgr : grW c = false := by
            rw [← Bool.not_eq_true]; intro q; simp only [cfL, lkE, q, if_true] at hall; exact absurd hall (by decide)
          have hri : riW c = false := by
            rw [← Bool.not_eq_true]; intro q; simp only [cfL, lkE, q, if_true] at hall; split at hall <;> (try split at hall) <;> (try split at hall) <;> exact absurd hall (by decide)
          obtain ⟨k1, k2, k3⟩ := grW_no hgr
          have k4 : c.nl.length ≤ 4 := by
            simp only [riW, Bool.or_eq_false_iff, decide_eq_false_iff_not] at hri; omega
          refine s_val rfl (v_loadAll Tryz.isAgg28 Tryz.sizeOf28 rfl rfl) ?_
          refine s_yes rfl rfl ?_
          refine s_do rfl (d_call Tryz.call182 rfl (cfNeed_spec W0 _ c h.g (fun g hg => (k3 g hg).2) k4 k2)) ?_
          rintro _ B_ ⟨rfl, hB_⟩
          obtain rfl := hB_.symm
          refine s_yes rfl rfl (s_val rfl (v_gtr rfl rfl) (s_val rfl (v_pick_t rfl rfl) (x_nil (n_then ?_))))
          refine x_if rfl ?_ ?_
          · intro c12
            refine x_seq (x_region (s_val rfl (v_assign rfl) (s_val rfl (v_assign rfl) (x_nil (n_then (x_ret (r_then (r_scope (x_done (.inl rfl) (.cons (r_tmp rfl) (.cons (r_tmp rfl) .nil)) ?_)))))))))
            rw [hce, if_pos (by omega)]
            exact ⟨_, ⟨0, rfl, rfl⟩, inferInstance⟩
          · intro c12
            refine x_skip (n_then (x_seq (x_region (s_val rfl (v_move rfl) (s_val rfl (v_move rfl) (s_val rfl (v_assign rfl) (s_val rfl (v_assign rfl) (x_nil (n_then (x_ret (r_scope (x_done (.inl rfl) (.cons (r_tmp rfl) (.cons (r_tmp rfl) .nil)) ?_))))))))))))
            rw [hce, if_neg (by omega)]
            exact ⟨_, ⟨_, rfl, rfl⟩, inferInstance⟩
        · intro g12_3
          refine s_no rfl rfl rfl rfl (s_no rfl rfl rfl rfl (s_val rfl (v_pick_f rfl rfl) (x_nil (n_then (x_iff rfl (x_skip (n_then (x_seq (x_region (s_val rfl (v_move rfl) (s_val rfl (v_move rfl) (s_val rfl (v_assign rfl) (s_val rfl (v_assign rfl) (x_nil (n_then (x_ret (r_scope (x_done (.inl rfl) (.cons (r_tmp rfl) (.cons (r_tmp rfl) .nil)) ?_))))))))))))))))))
          rw [hce, if_neg (by omega)]
          exact ⟨_, ⟨_, rfl, rfl⟩, inferInstance⟩
def rt (c : Cfg) : Bool := decide (ckE c = 0)
theorem cfRight_spec (W0 : World) (R : List HP) (c : Cfg) (h : CfOk W0 c) :
    Spec Tryz.prog W0 190 [.agg (cfgV c).toArray] R (fun v B => v = .bool (rt c) ∧ B = R) := by
  refine spec_body Tryz.func190 Tryz.ntmps190 rfl rfl ?_
  refine x_seq (x_region (s_do rfl (d_boxA rfl) ?_))
  rintro _ _ ⟨b1, rfl, rfl⟩
  refine s_val rfl (v_assign rfl) (x_nil (n_then (x_seq (x_region (s_val rfl (v_loadAll Tryz.isAgg28 Tryz.sizeOf28 rfl rfl) ?_)))))
  refine s_do rfl (d_call Tryz.call108 rfl (cfCheck_spec W0 _ c h)) ?_
  rintro _ B_ ⟨at_, rfl, hB_⟩
  obtain rfl := hB_.symm
  refine s_val rfl (v_move rfl) (s_val rfl (v_extract rfl rfl) (s_val rfl (v_extract rfl rfl) (s_val rfl (v_assign rfl) (s_val rfl (v_assign rfl) (x_nil (n_then (x_seq (x_region (s_val rfl (v_move rfl) (s_val rfl (v_eql rfl rfl) (s_val rfl (v_assign rfl) (x_nil (n_then (x_ret (x_done (.inl rfl) (.cons (r_tmp rfl) .nil) ?_)))))))))))))))
  refine ⟨_, ⟨?_, rfl⟩, inferInstance⟩
  refine congrArg Value.bool ?_
  rw [Bool.eq_iff_iff, rt]; simp
theorem siRight_spec (W0 : World) (R : List HP) (c : Cfg) (h : CfOk W0 c) :
    Spec Tryz.prog W0 36 [.agg (cfgV c).toArray] R (fun v B => v = .bool (rt c) ∧ B = R) := by
  refine spec_body Tryz.func36 Tryz.ntmps36 rfl rfl ?_
  refine x_seq (x_region (s_do rfl (d_boxA rfl) ?_))
  rintro _ _ ⟨b1, rfl, rfl⟩
  refine s_val rfl (v_assign rfl) (x_nil (n_then (x_seq (x_region (s_val rfl (v_loadAll Tryz.isAgg28 Tryz.sizeOf28 rfl rfl) ?_)))))
  refine s_do rfl (d_call Tryz.call108 rfl (cfCheck_spec W0 _ c h)) ?_
  rintro _ B_ ⟨at_, rfl, hB_⟩
  obtain rfl := hB_.symm
  refine s_val rfl (v_move rfl) (s_val rfl (v_extract rfl rfl) (s_val rfl (v_extract rfl rfl) (s_val rfl (v_assign rfl) (s_val rfl (v_assign rfl) (x_nil (n_then (x_seq (x_region (s_val rfl (v_move rfl) (s_val rfl (v_eql rfl rfl) (s_val rfl (v_assign rfl) (x_nil (n_then (x_ret (x_done (.inl rfl) (.cons (r_tmp rfl) .nil) ?_)))))))))))))))
  refine ⟨_, ⟨?_, rfl⟩, inferInstance⟩
  refine congrArg Value.bool ?_
  rw [Bool.eq_iff_iff, rt]; simp
theorem rt_yes {c : Cfg} (h : rt c = true) : 0 ≤ c.cats ∧ c.cats ≤ 8 ∧ grW c = false ∧ raW c = false ∧ poW c = false ∧ riW c = false ∧ slW c = false ∧ gtW c = false ∧ ndK c c.gl.length ≤ 32 := by
  have h := of_decide_eq_true h
  unfold ckE at h
  split at h
  · exact absurd h (by decide)
  rename_i q1
  repeat' split at h
  all_goals first | exact absurd h (by decide) | skip
  rename_i q2 q3 q4 q5 q6 q7 q8
  exact ⟨by omega, by omega, by simpa using q2, by simpa using q3, by simpa using q4, by simpa using q5, by simpa using q6, by simpa using q7, by omega⟩
def inW (c : Cfg) (at_ : Int) (i : Nat) : Bool := decide ((rlA c i).2.1 ≤ at_ ∧ at_ - (rlA c i).2.1 < (rlA c i).2.2)
def rgOf (c : Cfg) (at_ : Int) : Option Nat := if rt c = true ∧ 0 ≤ at_ then fsO (inW c at_) c.rl.length else none
theorem rangeOf1_wf (W0 : World) (b1 b3 : Nat) (c : Cfg) (at_ : Int) (ha : 0 ≤ at_ ∧ at_ < 9223372036854775808) (hb : ∀ r ∈ c.rl, 0 ≤ r.2.1 ∧ r.2.1 ≤ 32) (hs : ∀ A, SlA (OwnP W0 A) c.ra 3 gsV c.rl) :
    WF W0 191 [.pointer (some ⟨b1, 0, none⟩), .pointer (some ⟨b3, 0, none⟩)] c.rl.length (fun _ => grp [pt b1 (cfO c), pt b3 (cob [.int .i64 at_] 3)]) (inW c at_) := ⟨Tryz.call191, fun i hi R => by
  refine spec_kgrp ?_
  simp only [List.cons_append, List.nil_append]
  obtain ⟨g, o, hra, hc⟩ := (hs (pt b1 (cfO c) :: R)).at_ hi
  obtain ⟨x, hx⟩ : ∃ x, c.rl[i] = x := ⟨_, rfl⟩
  have hA : rlA c i = x := by simp [rlA, List.getD, hi, hx]
  have hbx := hb _ (List.getElem_mem hi)
  rw [hx] at hc hbx
  rw [inW, hA]
  refine spec_body Tryz.func191 Tryz.ntmps191 rfl rfl ?_
  refine x_seq (x_region (s_val rfl (v_assign rfl) (x_nil (n_then (x_seq (x_region ?_))))))
  refine s_val rfl (v_fieldAddr rfl Tryz.underlying28 rfl Tryz.sizeOf23 rfl (by first | exact Nat.zero_add _ | rfl)) ?_
  refine s_val rfl (v_load Tryz.isAgg23 rfl (cell_own rfl)) ?_
  refine s_val rfl (v_move rfl) ?_
  refine s_val rfl (v_idxA Tryz.underlying23 Tryz.sizeOf151 rfl hra rfl rfl hi (by first | exact Nat.zero_add _ | rfl)) ?_
  refine s_val rfl (v_loadAgg Tryz.isAgg151 Tryz.sizeOf151 rfl hc.weak rfl) ?_
  refine s_do rfl (d_allocA Tryz.zeroValue151) ?_
  rintro _ _ ⟨bx, rfl, rfl⟩
  refine s_do0 (d_storeAll Tryz.sizeOf151 rfl rfl rfl rfl rfl) ?_
  rintro _ _ rfl
  refine x_nil (n_then (x_seq (x_region (s_val rfl (v_load Tryz.isAgg3 rfl (cell_own rfl)) ?_))))
  refine s_val rfl (v_fieldAddr rfl Tryz.underlying151 rfl Tryz.sizeOf3 rfl (by first | exact Nat.zero_add _ | rfl)) ?_
  refine s_val rfl (v_load Tryz.isAgg3 rfl (cell_own rfl)) ?_
  refine s_val rfl (v_geq rfl rfl) (s_val rfl (v_move rfl) ?_)
  refine s_and rfl rfl rfl ?_ ?_
  · intro g2_5
    refine s_val rfl (v_load Tryz.isAgg3 rfl (cell_own rfl)) ?_
    refine s_yes rfl rfl ?_
    refine s_val rfl (v_fieldAddr rfl Tryz.underlying151 rfl Tryz.sizeOf3 rfl (by first | exact Nat.zero_add _ | rfl)) ?_
    refine s_yes rfl rfl (s_val rfl (v_load Tryz.isAgg3 rfl (cell_own rfl)) ?_)
    refine s_yes rfl rfl ?_
    refine s_val rfl (v_sub rfl rfl (w64 (by omega))) ?_
    refine s_yes rfl rfl ?_
    refine s_val rfl (v_fieldAddr rfl Tryz.underlying151 rfl Tryz.sizeOf3 rfl (by first | exact Nat.zero_add _ | rfl)) ?_
    refine s_yes rfl rfl (s_val rfl (v_load Tryz.isAgg3 rfl (cell_own rfl)) ?_)
    refine s_yes rfl rfl (s_val rfl (v_lss rfl rfl) (s_val rfl (v_pick_t rfl rfl) (s_val rfl (v_assign rfl) (x_nil (n_then (x_ret (x_done (.inl rfl) (.cons (r_tmp rfl) .nil) ?_)))))))
    refine ⟨_, ⟨?_, rfl⟩, ?_⟩
    · refine congrArg Value.bool ?_
      rw [Bool.eq_iff_iff, decide_eq_true_iff]
      first
        | (rw [decide_eq_true_iff]; constructor <;> (intro q; omega))
        | (constructor
           · intro q; first | omega | (cases q)
           · intro q; omega)
    · exact inferInstance
  · intro g2_5
    refine s_no rfl rfl rfl rfl (s_no rfl rfl rfl rfl (s_no rfl rfl rfl rfl (s_no rfl rfl rfl rfl (s_no rfl rfl rfl rfl (s_no rfl rfl rfl rfl (s_val rfl (v_pick_f rfl rfl) (s_val rfl (v_assign rfl) (x_nil (n_then (x_ret (x_done (.inl rfl) (.cons (r_tmp rfl) .nil) ?_)))))))))))
    refine ⟨_, ⟨?_, rfl⟩, ?_⟩
    · refine congrArg Value.bool ?_
      rw [Bool.eq_iff_iff, decide_eq_true_iff]
      first
        | (rw [decide_eq_true_iff]; constructor <;> (intro q; omega))
        | (constructor
           · intro q; first | omega | (cases q)
           · intro q; omega)
    · exact inferInstance
  ⟩
def oIx : Option Nat → Int
  | some i => (i : Int)
  | none => -1
theorem cfRangeOf_spec (W0 : World) (R : List HP) (c : Cfg) (h : CfOk W0 c) (at_ : Int) (ha : at_ < 9223372036854775808) :
    Spec Tryz.prog W0 112 [.agg (cfgV c).toArray, .int .i64 at_] R (fun v B => v = .int .i64 (oIx (rgOf c at_)) ∧ B = R) := by
  obtain ⟨w, hw⟩ : ∃ w, rt c = w := ⟨_, rfl⟩
  have hO : rgOf c at_ = if w = true ∧ 0 ≤ at_ then fsO (inW c at_) c.rl.length else none := by rw [rgOf, hw]
  rw [hO]
  refine spec_body Tryz.func112 Tryz.ntmps112 rfl rfl ?_
  refine x_seq (x_region (s_do rfl (d_boxA rfl) ?_))
  rintro _ _ ⟨b2, rfl, rfl⟩
  refine s_do rfl (d_box rfl rfl) ?_
  rintro _ _ ⟨b3, rfl, rfl⟩
  refine s_val rfl (v_assign rfl) (x_nil (n_then (x_seq (x_seq (x_region (s_val rfl (v_loadAll Tryz.isAgg28 Tryz.sizeOf28 rfl rfl) ?_))))))
  refine s_do rfl (d_call Tryz.call190 rfl (cfRight_spec W0 _ c h)) ?_
  rintro _ B_ ⟨rfl, hB_⟩
  obtain rfl := hB_.symm
  rw [hw]
  refine s_val rfl (v_not rfl) (s_val rfl (v_move rfl) ?_)
  refine s_or rfl rfl rfl ?_ ?_
  · intro g1_4
    refine s_no rfl rfl rfl rfl (s_val rfl (v_pick_t rfl rfl) (x_nil (n_then (x_ift rfl (x_seq (x_region (s_val rfl (v_assign rfl) (x_nil (n_then (x_ret (r_then (x_done (.inl rfl) (.cons (r_tmp rfl) .nil) ?_))))))))))))
    rw [if_neg (by first | (rintro ⟨q1, q2⟩; omega) | (rintro ⟨q1, q2⟩; simp_all))]
    exact ⟨_, ⟨rfl, rfl⟩, inferInstance⟩
  · intro g1_4
    refine s_val rfl (v_load Tryz.isAgg3 rfl (cell_own rfl)) ?_
    refine s_yes rfl rfl (s_val rfl (v_lss rfl rfl) (s_val rfl (v_pick_f rfl rfl) (x_nil (n_then ?_))))
    refine x_if rfl ?_ ?_
    · intro c1
      refine x_seq (x_region (s_val rfl (v_assign rfl) (x_nil (n_then (x_ret (r_then (x_done (.inl rfl) (.cons (r_tmp rfl) .nil) ?_)))))))
      rw [if_neg (by first | (rintro ⟨q1, q2⟩; omega) | (rintro ⟨q1, q2⟩; simp_all))]
      exact ⟨_, ⟨rfl, rfl⟩, inferInstance⟩
    · intro c1
      refine x_skip (n_then (x_seq ?_))
      have hw1 : w = true := by
        cases w with
        | true => rfl
        | false => first | exact absurd rfl g1_4 | exact absurd (by decide) g1_4
      have hat : 0 ≤ at_ := by omega
      rw [if_pos ⟨hw1, hat⟩]
      have hk := rt_yes (hw.trans hw1)
      obtain ⟨k1, k2⟩ := raW_no hk.2.2.2.1
      obtain ⟨o, ho⟩ : ∃ o, fsO (inW c at_) c.rl.length = o := ⟨_, rfl⟩
      rw [ho]
      refine x_region (s_val rfl (v_mkFunc rfl rfl) ?_)
      refine s_val rfl (v_assign rfl) (x_nil (n_then (x_seq (x_seq (x_region ?_)))))
      refine s_val rfl (v_fieldAddr rfl Tryz.underlying28 rfl Tryz.sizeOf23 rfl (by first | exact Nat.zero_add _ | rfl)) ?_
      refine s_val rfl (v_load Tryz.isAgg23 rfl (cell_own rfl)) ?_
      refine s_val rfl (v_len_slice Tryz.underlying23 rfl) (s_val rfl (v_move rfl) ?_)
      refine s_do rfl (does_ent (B := kH 0 (grp [pt b2 (cfO c), pt b3 (cob [.int .i64 at_] 3)]) :: R) inferInstance (d_call Tryz.call192 rfl (cfFirstX_spec W0 R 191 [.pointer (some ⟨b2, 0, none⟩), .pointer (some ⟨b3, 0, none⟩)] c.rl.length (fun _ => grp [pt b2 (cfO c), pt b3 (cob [.int .i64 at_] 3)]) (inW c at_) (rangeOf1_wf W0 b2 b3 c at_ ⟨hat, ha⟩ (fun r hr => by have := k2 r hr; omega) h.r) (by omega)))) ?_
      rintro _ B_ ⟨rfl, hB_⟩
      obtain rfl := hB_.symm
      rw [ho]
      refine s_val rfl (v_move rfl) (s_val rfl (v_extract rfl rfl) (s_val rfl (v_extract rfl rfl) (s_val rfl (v_assign rfl) (s_val rfl (v_assign rfl) (x_nil (n_then (x_seq (x_region (s_val rfl (v_move rfl) (x_nil (n_then ?_)))))))))))
      refine x_if rfl ?_ ?_
      · intro c5
        refine x_seq (x_region (s_val rfl (v_move rfl) (s_val rfl (v_assign rfl) (x_nil (n_then (x_ret (r_then (x_done (.inl rfl) (.cons (r_tmp rfl) .nil) ?_))))))))
        obtain ⟨i, rfl⟩ : ∃ i, o = some i := Option.isSome_iff_exists.1 c5
        exact ⟨_, ⟨rfl, rfl⟩, inferInstance⟩
      · intro c5
        refine x_skip (n_then (x_seq (x_region (s_val rfl (v_assign rfl) (x_nil (n_then (x_ret (x_done (.inl rfl) (.cons (r_tmp rfl) .nil) ?_))))))))
        have hn : o = none := by
          cases o with
          | none => rfl
          | some i => exact absurd rfl c5
        subst hn
        exact ⟨_, ⟨rfl, rfl⟩, inferInstance⟩
end Go.Proofs.YtncegikenkpcmaaGreat
namespace Go.Proofs.YtncegikenkpcmaaGreat
open Go.RowKit
set_option linter.unusedSimpArgs false
set_option linter.unusedVariables false
set_option maxRecDepth 20000
def rtbH (b : Nat) (L : List Int) : HP := chk (fun C => ∃ a c, C = [pt b (cob [.slice a L.length c] 241), osl 3 1 (.slice a L.length c) (L.flatMap inI)])
section
variable {W0 : World} {N : FSz} {K : Act → World → Prop} {e : Env} {A B R R1 R2 : List HP} {b n c : Nat} {L : List Int}
theorem run_rtb [hk : Tk rtbH b A L R] (h : ∀ a c, Run W0 N K e (pt b (cob [.slice a L.length c] 241) :: osl 3 1 (.slice a L.length c) (L.flatMap inI) :: R)) : Run W0 N K e A :=
  run_tk (r := rtbH) (b := b) (run_chk fun C hC => by obtain ⟨a, c, rfl⟩ := hC; exact h a c)
theorem ent_rtb {a : Option Addr} {ys : List Value} [h1 : Tk pt b A (cob [.slice a n c] 241) R1] [h2 : Tk (osl 3 1) (.slice a n c) R1 ys R2] (hk : n = L.length) (hy : ys = L.flatMap inI) [q : Ent R2 B] : Ent A (rtbH b L :: B) := by
  subst hk; subst hy
  exact (Ent.ofPerm (h1.perm.trans (h2.perm.cons _))).trans ((ent_chk (R := R2) (C := [_, _]) ⟨a, c, rfl⟩).trans (Ent.cons q))
end
theorem inI_len (x : Int) : (inI x).length = 1 := rfl
theorem inI_fm (L : List Int) : (L.flatMap inI).length = L.length := by rw [flat_len inI_len]; omega
theorem inI_set (L : List Int) (j : Nat) (w : Int) : (L.flatMap inI).set j (.int .i64 w) = (L.set j w).flatMap inI := by
  induction L generalizing j with
  | nil => rfl
  | cons x L ih =>
    cases j with
    | zero => rfl
    | succ j => simp only [List.flatMap_cons, inI, List.cons_append, List.nil_append, List.set_cons_succ] at ih ⊢; rw [ih]
theorem inI_one (L : List Int) : allOne (L.flatMap inI) = true := by
  induction L with
  | nil => rfl
  | cons x l ih => rw [List.flatMap_cons, allOne, List.all_append, Bool.and_eq_true]; exact ⟨rfl, ih⟩
theorem rpNew_spec03 (W0 : World) (R : List HP) (n : Nat) (h : n ≤ 64) : Spec Tryz.prog W0 77 [.int .i64 n] R (fun v B => ∃ b, v = .tuple #[.pointer (some ⟨b, 0, none⟩), .int .i64 0] ∧ B = rtbH b (List.replicate n (-1)) :: R) := by
  refine spec_body Tryz.func77 Tryz.ntmps77 rfl rfl ?_
  refine x_seq (x_region (s_val rfl (v_assign rfl) (s_val rfl (v_assign rfl) (x_nil (n_then (x_seq (x_seq (x_region (s_val rfl (v_move rfl) (s_val rfl (v_lss rfl rfl) (s_val rfl (v_move rfl) ?_)))))))))))
  refine s_or rfl rfl rfl ?_ ?_
  · intro g1_3
    omega
  · intro g1_3
    refine s_val rfl (v_move rfl) (s_yes rfl rfl (s_val rfl (v_gtr rfl rfl) (s_val rfl (v_pick_f rfl rfl) (x_nil (n_then ?_)))))
    refine x_if rfl ?_ ?_
    · intro c1
      omega
    · intro c1
      refine x_skip (n_then (x_seq (x_region (s_val rfl (v_build Tryz.underlying241 Tryz.zeroValue241 (sized_cons Tryz.sizeOf38 sized_nil) fil_nil) ?_))))
      refine s_do rfl (d_boxA rfl) ?_
      rintro _ _ ⟨bt, rfl, rfl⟩
      refine s_val rfl (v_assign rfl) (x_nil (n_then (x_seq (x_seq (x_region (s_val rfl (v_assign rfl) (x_nil (n_then (x_block ?_)))))))))
      refine x_loop (fun X : Nat × Option Addr × Nat => X.1 ≤ n) (fun X => [(0, .int .i64 n), (4, .pointer (some ⟨bt, 0, none⟩)), (5, .int .i64 X.1)]) (fun X => pt bt (cob [.slice X.2.1 X.1 X.2.2] 241) :: osl 3 1 (.slice X.2.1 X.1 X.2.2) ((List.replicate X.1 (-1)).flatMap inI) :: R) (fun X => n - X.1) (0, none, 0) ?_ ?_ ?_ ?_
      · exact Nat.zero_le _
      · repeat (first | exact sub_nil | refine sub_cons rfl ?_)
      · exact Ent.cons ent_osl_nil
      · intro ⟨i, a, c⟩ hi
        dsimp only at hi ⊢
        refine x_seq (x_seq (x_region (s_val rfl (v_move rfl) (s_val rfl (v_move rfl) (s_val rfl (v_lss rfl rfl) (x_nil (n_then ?_)))))))
        refine x_if rfl ?_ ?_
        · intro c5
          refine x_skip (n_then (x_seq (x_block (x_region (s_val rfl (v_move rfl) (s_val rfl (v_move rfl) (s_val rfl (v_nilCheck rfl) ?_)))))))
          refine s_val rfl (v_fieldAddr rfl Tryz.underlying241 rfl Tryz.sizeOf38 rfl (by first | exact Nat.zero_add _ | rfl)) ?_
          refine s_val rfl (v_load Tryz.isAgg38 rfl (cell_own rfl)) ?_
          refine s_do rfl (d_sliceLit Tryz.underlying38 Tryz.sizeOf3 Tryz.zeroValue3 rfl rfl rfl rfl rfl (by decide) (by decide)) ?_
          rintro _ _ ⟨b2, rfl, rfl⟩
          refine s_do rfl (d_append (sz := 1) (by_ := 8) (info := Tryz.t3) Tryz.underlying38 (by kernel_rfl) rfl rfl rfl rfl (by decide) rfl rfl cells_all rfl rfl (by simp only [maxLen]; omega) (by omega)) ?_
          rintro _ _ ⟨a3, c3, rfl, rfl⟩
          have hmp : (List.replicate i (-1)).flatMap inI ++ [Value.int .i64 (-1)] = (List.replicate (i + 1) (-1 : Int)).flatMap inI := by
            rw [List.replicate_succ', List.flatMap_append]; rfl
          rw [hmp]
          refine s_val rfl (v_nilCheck rfl) ?_
          refine s_val rfl (v_fieldAddr rfl Tryz.underlying241 rfl Tryz.sizeOf38 rfl (by first | exact Nat.zero_add _ | rfl)) ?_
          refine s_do0 (d_store Tryz.sizeOf38 rfl rfl rfl (Nat.le_of_ble_eq_true rfl) SetL.eq) ?_
          rintro _ _ rfl
          refine x_nil (n_block (n_then (x_region (s_val rfl (v_move rfl) ?_))))
          refine s_val rfl (v_add rfl rfl (by first | exact w64 (by omega) | rfl)) ?_
          refine s_val rfl (v_assign rfl) (x_nil (n_then ?_))
          refine inv_intro (i + 1, a3, c3) ?_ ?_ ?_ ?_
          · omega
          · omega
          · repeat (first | exact sub_nil | refine sub_cons rfl ?_)
          · exact inferInstance
        · intro c5
          refine x_exit (e_then (e_then (e_block (n_then (x_seq (x_region (s_val rfl (v_move rfl) (s_val rfl (v_assign rfl) (s_val rfl (v_assign rfl) (x_nil (n_then (x_ret (x_done (.inl rfl) (.cons (r_tmp rfl) (.cons (r_tmp rfl) .nil)) ?_)))))))))))))
          obtain rfl : i = n := by omega
          exact ⟨_, ⟨bt, rfl, rfl⟩, ent_rtb (by simp) rfl⟩
def stL (L : List Int) (f k : Nat) (w : Int) : List Int := (List.range L.length).map fun j => if f ≤ j ∧ j < f + k then w else L.getD j (-1)
theorem stL_len {L : List Int} {f k : Nat} {w : Int} : (stL L f k w).length = L.length := by simp [stL]
theorem stL_zero {L : List Int} {f : Nat} {w : Int} : stL L f 0 w = L := by
  apply List.ext_getElem
  · exact stL_len
  · intro i h1 h2
    simp only [stL, List.getElem_map, List.getElem_range]
    rw [if_neg (by omega)]; simp [List.getD, h2]
theorem stL_set {L : List Int} {f k : Nat} {w : Int} (h : f + k < L.length) : (stL L f k w).set (f + k) w = stL L f (k + 1) w := by
  apply List.ext_getElem
  · simp [stL]
  · intro i h1 h2
    rw [List.getElem_set]
    simp only [stL, List.getElem_map, List.getElem_range]
    by_cases e : f + k = i
    · rw [if_pos e, if_pos (by omega)]
    · rw [if_neg e]
      by_cases q : f ≤ i ∧ i < f + k
      · rw [if_pos q, if_pos (by omega)]
      · rw [if_neg q, if_neg (by omega)]
theorem rpS_st {L : List Int} {f k : Nat} {w : Int} (h : rpE L f k w = 0) : rpS L f k w = stL L f k w := by
  rw [rpS, if_pos h, stL]
  apply List.map_congr_left
  intro i _
  by_cases q : f ≤ i ∧ i < f + k
  · rw [if_pos q, if_pos (by omega)]
  · rw [if_neg q, if_neg (by omega)]
theorem rpE_used {L : List Int} {f k i : Nat} {w : Int} (hb : ¬ ((f : Int) < 0 ∨ (k : Int) < 1 ∨ (L.length : Int) < f ∨ (L.length : Int) - f < k ∨ w < 0 ∨ 64 ≤ w)) (hi : i < k) (h : 0 ≤ L.getD (f + i) (-1)) : rpE L f k w = 5 := by
  rw [rpE, if_neg hb, if_pos]
  rw [List.any_eq_true]
  exact ⟨i, List.mem_range.2 (by omega), decide_eq_true (by rw [Int.toNat_natCast]; exact h)⟩
theorem rpE_free {L : List Int} {f k : Nat} {w : Int} (hb : ¬ ((f : Int) < 0 ∨ (k : Int) < 1 ∨ (L.length : Int) < f ∨ (L.length : Int) - f < k ∨ w < 0 ∨ 64 ≤ w)) (h : ∀ j, j < k → ¬ 0 ≤ L.getD (f + j) (-1)) : rpE L f k w = 0 := by
  rw [rpE, if_neg hb, if_neg]
  intro q
  obtain ⟨i, hi, hd⟩ := List.any_eq_true.1 q
  have hd := of_decide_eq_true hd
  rw [Int.toNat_natCast] at hd
  exact h i (by have := List.mem_range.1 hi; omega) hd
theorem rpGive_spec (W0 : World) (R : List HP) (b : Nat) (L : List Int) (hl : L.length ≤ 64) (f k w : Int) :
    Spec Tryz.prog W0 79 [.pointer (some ⟨b, 0, none⟩), .int .i64 f, .int .i64 k, .int .i64 w] (rtbH b L :: R) (fun v B => v = .int .i64 (rpE L f k w) ∧ B = rtbH b (rpS L f k w) :: R) := by
  refine spec_body Tryz.func79 Tryz.ntmps79 rfl rfl ?_
  refine x_seq (x_region (s_val rfl (v_assign rfl) (x_nil (n_then (x_seq (x_seq ?_))))))
  refine run_rtb (b := b) fun a c => ?_
  refine x_region (s_val rfl (v_move rfl) (s_val rfl (v_lss rfl rfl) (s_val rfl (v_move rfl) ?_)))
  refine s_or rfl rfl rfl ?_ ?_
  · intro g1_3
    refine s_no rfl rfl rfl rfl (s_val rfl (v_pick_t rfl rfl) (s_val rfl (v_move rfl) (s_no rfl rfl rfl rfl (s_no rfl rfl rfl rfl (s_no rfl rfl rfl rfl (s_no rfl rfl rfl rfl (s_no rfl rfl rfl rfl (s_no rfl rfl rfl rfl (s_no rfl rfl rfl rfl (s_val rfl (v_pick_t rfl rfl) (s_val rfl (v_move rfl) (s_no rfl rfl rfl rfl (s_no rfl rfl rfl rfl (s_no rfl rfl rfl rfl (s_no rfl rfl rfl rfl (s_no rfl rfl rfl rfl (s_no rfl rfl rfl rfl (s_no rfl rfl rfl rfl (s_no rfl rfl rfl rfl (s_no rfl rfl rfl rfl (s_val rfl (v_pick_t rfl rfl) (s_val rfl (v_move rfl) (s_no rfl rfl rfl rfl ?_)))))))))))))))))))))))
    refine s_no rfl rfl rfl rfl (s_val rfl (v_pick_t rfl rfl) (s_val rfl (v_move rfl) (s_no rfl rfl rfl rfl (s_no rfl rfl rfl rfl (s_val rfl (v_pick_t rfl rfl) (x_nil (n_then (x_ift rfl (x_seq (x_region (s_val rfl (v_assign rfl) (x_nil (n_then (x_ret (r_then (x_done (.inl rfl) (.cons (r_tmp rfl) .nil) ?_))))))))))))))))
    have he : rpE L f k w = 1 := by rw [rpE, if_pos (by omega)]
    rw [rpS, he, if_neg (by decide)]
    exact ⟨_, ⟨rfl, rfl⟩, ent_rtb rfl rfl⟩
  · intro g1_3
    refine s_val rfl (v_move rfl) (s_yes rfl rfl (s_val rfl (v_lss rfl rfl) (s_val rfl (v_pick_f rfl rfl) (s_val rfl (v_move rfl) ?_))))
    refine s_or rfl rfl rfl ?_ ?_
    · intro g1_7
      refine s_no rfl rfl rfl rfl (s_no rfl rfl rfl rfl (s_no rfl rfl rfl rfl (s_no rfl rfl rfl rfl (s_no rfl rfl rfl rfl (s_no rfl rfl rfl rfl (s_val rfl (v_pick_t rfl rfl) (s_val rfl (v_move rfl) (s_no rfl rfl rfl rfl (s_no rfl rfl rfl rfl (s_no rfl rfl rfl rfl (s_no rfl rfl rfl rfl (s_no rfl rfl rfl rfl (s_no rfl rfl rfl rfl (s_no rfl rfl rfl rfl (s_no rfl rfl rfl rfl (s_no rfl rfl rfl rfl (s_val rfl (v_pick_t rfl rfl) (s_val rfl (v_move rfl) (s_no rfl rfl rfl rfl (s_no rfl rfl rfl rfl (s_val rfl (v_pick_t rfl rfl) (s_val rfl (v_move rfl) (s_no rfl rfl rfl rfl ?_)))))))))))))))))))))))
      refine s_no rfl rfl rfl rfl (s_val rfl (v_pick_t rfl rfl) (x_nil (n_then (x_ift rfl (x_seq (x_region (s_val rfl (v_assign rfl) (x_nil (n_then (x_ret (r_then (x_done (.inl rfl) (.cons (r_tmp rfl) .nil) ?_))))))))))))
      have he : rpE L f k w = 1 := by rw [rpE, if_pos (by omega)]
      rw [rpS, he, if_neg (by decide)]
      exact ⟨_, ⟨rfl, rfl⟩, ent_rtb rfl rfl⟩
    · intro g1_7
      refine s_val rfl (v_move rfl) (s_yes rfl rfl (s_val rfl (v_move rfl) (s_yes rfl rfl (s_val rfl (v_nilCheck rfl) (s_yes rfl rfl ?_)))))
      refine s_val rfl (v_fieldAddr rfl Tryz.underlying241 rfl Tryz.sizeOf38 rfl (by first | exact Nat.zero_add _ | rfl)) ?_
      refine s_yes rfl rfl (s_val rfl (v_load Tryz.isAgg38 rfl (cell_own rfl)) ?_)
      refine s_yes rfl rfl (s_val rfl (v_len_slice Tryz.underlying38 rfl) (s_yes rfl rfl (s_val rfl (v_gtr rfl rfl) (s_val rfl (v_pick_f rfl rfl) (s_val rfl (v_move rfl) ?_)))))
      refine s_or rfl rfl rfl ?_ ?_
      · intro g1_16
        refine s_no rfl rfl rfl rfl (s_no rfl rfl rfl rfl (s_no rfl rfl rfl rfl (s_no rfl rfl rfl rfl (s_no rfl rfl rfl rfl (s_no rfl rfl rfl rfl (s_no rfl rfl rfl rfl (s_no rfl rfl rfl rfl (s_val rfl (v_pick_t rfl rfl) (s_val rfl (v_move rfl) (s_no rfl rfl rfl rfl (s_no rfl rfl rfl rfl (s_val rfl (v_pick_t rfl rfl) (s_val rfl (v_move rfl) (s_no rfl rfl rfl rfl (s_no rfl rfl rfl rfl (s_val rfl (v_pick_t rfl rfl) (x_nil (n_then (x_ift rfl (x_seq (x_region (s_val rfl (v_assign rfl) (x_nil ?_)))))))))))))))))))))))
        refine n_then (x_ret (r_then (x_done (.inl rfl) (.cons (r_tmp rfl) .nil) ?_)))
        have he : rpE L f k w = 1 := by rw [rpE, if_pos (by omega)]
        rw [rpS, he, if_neg (by decide)]
        exact ⟨_, ⟨rfl, rfl⟩, ent_rtb rfl rfl⟩
      · intro g1_16
        refine s_val rfl (v_move rfl) (s_yes rfl rfl (s_val rfl (v_move rfl) (s_yes rfl rfl (s_val rfl (v_nilCheck rfl) (s_yes rfl rfl ?_)))))
        refine s_val rfl (v_fieldAddr rfl Tryz.underlying241 rfl Tryz.sizeOf38 rfl (by first | exact Nat.zero_add _ | rfl)) ?_
        refine s_yes rfl rfl (s_val rfl (v_load Tryz.isAgg38 rfl (cell_own rfl)) ?_)
        refine s_yes rfl rfl (s_val rfl (v_len_slice Tryz.underlying38 rfl) (s_yes rfl rfl (s_val rfl (v_move rfl) (s_yes rfl rfl ?_))))
        refine s_val rfl (v_sub rfl rfl (w64 (by omega))) ?_
        refine s_yes rfl rfl (s_val rfl (v_gtr rfl rfl) (s_val rfl (v_pick_f rfl rfl) (s_val rfl (v_move rfl) ?_)))
        refine s_or rfl rfl rfl ?_ ?_
        · intro g1_27
          refine s_no rfl rfl rfl rfl (s_val rfl (v_pick_t rfl rfl) (s_val rfl (v_move rfl) (s_no rfl rfl rfl rfl (s_no rfl rfl rfl rfl (s_val rfl (v_pick_t rfl rfl) (x_nil (n_then (x_ift rfl (x_seq (x_region (s_val rfl (v_assign rfl) (x_nil (n_then (x_ret (r_then (x_done (.inl rfl) (.cons (r_tmp rfl) .nil) ?_))))))))))))))))
          have he : rpE L f k w = 1 := by rw [rpE, if_pos (by omega)]
          rw [rpS, he, if_neg (by decide)]
          exact ⟨_, ⟨rfl, rfl⟩, ent_rtb rfl rfl⟩
        · intro g1_27
          refine s_val rfl (v_move rfl) (s_yes rfl rfl (s_val rfl (v_lss rfl rfl) (s_val rfl (v_pick_f rfl rfl) (s_val rfl (v_move rfl) ?_))))
          refine s_or rfl rfl rfl ?_ ?_
          · intro g1_31
            refine s_no rfl rfl rfl rfl (s_val rfl (v_pick_t rfl rfl) (x_nil (n_then (x_ift rfl (x_seq (x_region (s_val rfl (v_assign rfl) (x_nil (n_then (x_ret (r_then (x_done (.inl rfl) (.cons (r_tmp rfl) .nil) ?_))))))))))))
            have he : rpE L f k w = 1 := by rw [rpE, if_pos (by omega)]
            rw [rpS, he, if_neg (by decide)]
            exact ⟨_, ⟨rfl, rfl⟩, ent_rtb rfl rfl⟩
          · intro g1_31
            refine s_val rfl (v_move rfl) (s_yes rfl rfl (s_val rfl (v_geq rfl rfl) (s_val rfl (v_pick_f rfl rfl) (x_nil (n_then ?_)))))
            refine x_if rfl ?_ ?_
            · intro c1
              refine x_seq (x_region (s_val rfl (v_assign rfl) (x_nil (n_then (x_ret (r_then (x_done (.inl rfl) (.cons (r_tmp rfl) .nil) ?_)))))))
              have he : rpE L f k w = 1 := by rw [rpE, if_pos (by omega)]
              rw [rpS, he, if_neg (by decide)]
              exact ⟨_, ⟨rfl, rfl⟩, ent_rtb rfl rfl⟩
            · intro c1
              refine x_skip (n_then (x_seq (x_seq ?_)))
              have hb : ¬ (f < 0 ∨ k < 1 ∨ (L.length : Int) < f ∨ (L.length : Int) - f < k ∨ w < 0 ∨ 64 ≤ w) := by omega
              obtain ⟨f, rfl⟩ : ∃ f' : Nat, f = (f' : Int) := ⟨f.toNat, by omega⟩
              obtain ⟨k, rfl⟩ : ∃ k' : Nat, k = (k' : Int) := ⟨k.toNat, by omega⟩
              have hfk : f + k ≤ L.length := by omega
              refine run_form (E := 3) (sz := 1) (a := a) (c := c) (n := L.length) (ys := L.flatMap inI) (fun hf => ?_)
              obtain ⟨g, rfl⟩ := form_some hf (by rw [← List.length_pos_iff, inI_fm]; omega)
              refine x_region (s_val rfl (v_assign rfl) (x_nil (n_then (x_block ?_))))
              refine x_loop (fun i : Nat => i ≤ k ∧ ∀ j, j < i → ¬ 0 ≤ L.getD (f + j) (-1)) (fun i => [(0, .pointer (some ⟨b, 0, none⟩)), (1, .int .i64 f), (2, .int .i64 k), (3, .int .i64 w), (9, .int .i64 i)]) (fun i => pt b (cob [.slice (some ⟨g, 0, none⟩) L.length c] 241) :: osl 3 1 (.slice (some ⟨g, 0, none⟩) L.length c) (L.flatMap inI) :: R) (fun i => k - i) 0 ?_ ?_ ?_ ?_
              · exact ⟨Nat.zero_le _, fun j hj => absurd hj (Nat.not_lt_zero j)⟩
              · repeat (first | exact sub_nil | refine sub_cons rfl ?_)
              · exact inferInstance
              · intro i ⟨hi, hI⟩
                refine x_seq (x_seq (x_region (s_val rfl (v_move rfl) (s_val rfl (v_move rfl) (s_val rfl (v_lss rfl rfl) (x_nil (n_then ?_)))))))
                refine x_if rfl ?_ ?_
                · intro c4
                  refine x_skip (n_then (x_seq (x_block (x_seq ?_))))
                  have hi1 : f + i < L.length := by omega
                  have hgi : L[f + i]? = some (L.getD (f + i) (-1)) := by simp [List.getD, hi1]
                  refine x_region (s_val rfl (v_move rfl) (s_val rfl (v_nilCheck rfl) ?_))
                  refine s_val rfl (v_fieldAddr rfl Tryz.underlying241 rfl Tryz.sizeOf38 rfl (by first | exact Nat.zero_add _ | rfl)) ?_
                  refine s_val rfl (v_load Tryz.isAgg38 rfl (cell_own rfl)) ?_
                  refine s_val rfl (v_move rfl) (s_val rfl (v_move rfl) ?_)
                  refine s_val rfl (v_add rfl rfl (by rw [w64 (by omega)]; omega : IntKind.wrap .i64 ((f : Int) + (i : Int)) = ((f + i : Nat) : Int))) ?_
                  refine s_val rfl (v_idx Tryz.underlying38 Tryz.sizeOf3 rfl rfl rfl hi1 (by first | exact Nat.zero_add _ | rfl)) ?_
                  refine s_val rfl (v_load Tryz.isAgg3 rfl (cells_rw (f := inI) (E := 3) (sz := 1) (n := L.length) (c := c) rfl inI_len (by decide) hgi 0 _ rfl)) ?_
                  refine s_val rfl (v_geq rfl rfl) (x_nil (n_then ?_))
                  refine x_if rfl ?_ ?_
                  · intro c6
                    refine x_seq (x_region (s_val rfl (v_assign rfl) (x_nil (n_then (x_ret (r_block (r_then (r_then (r_block (r_then (x_done (.inl rfl) (.cons (r_tmp rfl) .nil) ?_)))))))))))
                    have he : rpE L f k w = 5 := rpE_used hb (by omega) c6
                    rw [rpS, he, if_neg (by decide)]
                    exact ⟨_, ⟨rfl, rfl⟩, ent_rtb rfl rfl⟩
                  · intro c6
                    refine x_skip (n_block (n_then (x_region (s_val rfl (v_move rfl) ?_))))
                    refine s_val rfl (v_add rfl rfl (by first | exact w64 (by omega) | rfl)) ?_
                    refine s_val rfl (v_assign rfl) (x_nil (n_then ?_))
                    refine inv_intro (i + 1) ?_ ?_ ?_ ?_
                    · refine ⟨by omega, fun j hj => ?_⟩
                      rcases Nat.lt_or_ge j i with q | q
                      · exact hI j q
                      · rw [show j = i by omega]; exact c6
                    · omega
                    · repeat (first | exact sub_nil | refine sub_cons rfl ?_)
                    · exact inferInstance
                · intro c4
                  refine x_exit (e_then (e_then (e_block (n_then (x_seq ?_)))))
                  obtain rfl : i = k := by omega
                  have he : rpE L f i w = 0 := rpE_free hb hI
                  refine x_region (s_do rfl (d_slice0 Tryz.underlying38 Tryz.sizeOf3 rfl) ?_)
                  rintro _ _ ⟨be, rfl, rfl⟩
                  refine s_val rfl (v_move rfl) (s_val rfl (v_nilCheck rfl) ?_)
                  refine s_val rfl (v_fieldAddr rfl Tryz.underlying241 rfl Tryz.sizeOf38 rfl (by first | exact Nat.zero_add _ | rfl)) ?_
                  refine s_val rfl (v_load Tryz.isAgg38 rfl (cell_own rfl)) ?_
                  refine s_do rfl (d_append (sz := 1) (by_ := 8) (info := Tryz.t3) Tryz.underlying38 (by kernel_rfl) rfl rfl rfl rfl (by decide) rfl rfl (cells_osl (E := 3) (sz := 1) (a := some ⟨g, 0, none⟩) (c := c) (n := L.length)) (by rw [inI_fm, Nat.mul_one]) (inI_one L) (by simp only [maxLen]; omega) (by omega)) ?_
                  rintro _ _ ⟨a3, c3, rfl, rfl⟩
                  rw [List.nil_append, Nat.zero_add]
                  refine run_form (E := 3) (sz := 1) (a := a3) (c := c3) (n := L.length) (ys := L.flatMap inI) (fun hf3 => ?_)
                  obtain ⟨g3, rfl⟩ := form_some hf3 (by rw [← List.length_pos_iff, inI_fm]; omega)
                  refine s_val rfl (v_assign rfl) (x_nil (n_then (x_seq (x_seq (x_region (s_val rfl (v_assign rfl) (x_nil (n_then (x_block ?_)))))))))
                  refine x_loop (fun j : Nat => j ≤ i) (fun j => [(0, .pointer (some ⟨b, 0, none⟩)), (1, .int .i64 f), (2, .int .i64 i), (3, .int .i64 w), (10, .slice (some ⟨g3, 0, none⟩) L.length c3), (11, .int .i64 j)]) (fun j => pt b (cob [.slice (some ⟨g, 0, none⟩) L.length c] 241) :: osl 3 1 (.slice (some ⟨g3, 0, none⟩) L.length c3) ((stL L f j w).flatMap inI) :: R) (fun j => i - j) 0 ?_ ?_ ?_ ?_
                  · exact Nat.zero_le _
                  · repeat (first | exact sub_nil | refine sub_cons rfl ?_)
                  · rw [stL_zero]; exact inferInstance
                  · intro j hj
                    refine x_seq (x_seq (x_region (s_val rfl (v_move rfl) (s_val rfl (v_move rfl) (s_val rfl (v_lss rfl rfl) (x_nil (n_then ?_)))))))
                    refine x_if rfl ?_ ?_
                    · intro c10
                      refine x_skip (n_then (x_seq (x_block (x_region (s_val rfl (v_move rfl) (s_val rfl (v_move rfl) (s_val rfl (v_move rfl) ?_)))))))
                      refine s_val rfl (v_add rfl rfl (by rw [w64 (by omega)]; omega : IntKind.wrap .i64 ((f : Int) + (j : Int)) = ((f + j : Nat) : Int))) ?_
                      refine s_val rfl (v_move rfl) ?_
                      refine s_val rfl (v_idx Tryz.underlying38 Tryz.sizeOf3 rfl rfl rfl (by omega) (by first | exact Nat.zero_add _ | rfl)) ?_
                      refine s_do0 (d_storeS (E := 3) (sz := 1) (n := L.length) (c := c3) (l' := (stL L f (j + 1) w).flatMap inI) Tryz.sizeOf3 rfl rfl rfl (by rw [inI_fm, stL_len]; omega) (by rw [Nat.mul_one, inI_set, stL_set (by omega)])) ?_
                      rintro _ _ rfl
                      refine x_nil (n_block (n_then (x_region (s_val rfl (v_move rfl) ?_))))
                      refine s_val rfl (v_add rfl rfl (by first | exact w64 (by omega) | rfl)) ?_
                      refine s_val rfl (v_assign rfl) (x_nil (n_then ?_))
                      refine inv_intro (j + 1) ?_ ?_ ?_ ?_
                      · omega
                      · omega
                      · repeat (first | exact sub_nil | refine sub_cons rfl ?_)
                      · exact inferInstance
                    · intro c10
                      refine x_exit (e_then (e_then (e_block (n_then (x_seq (x_region (s_val rfl (v_move rfl) (s_val rfl (v_move rfl) (s_val rfl (v_nilCheck rfl) ?_)))))))))
                      refine s_val rfl (v_fieldAddr rfl Tryz.underlying241 rfl Tryz.sizeOf38 rfl (by first | exact Nat.zero_add _ | rfl)) ?_
                      refine s_do0 (d_store Tryz.sizeOf38 rfl rfl rfl (Nat.le_of_ble_eq_true rfl) SetL.eq) ?_
                      rintro _ _ rfl
                      refine x_nil (n_then (x_seq (x_region (s_val rfl (v_assign rfl) (x_nil (n_then (x_ret (x_done (.inl rfl) (.cons (r_tmp rfl) .nil) ?_))))))))
                      obtain rfl : j = i := by omega
                      rw [he, rpS_st he]
                      exact ⟨_, ⟨rfl, rfl⟩, ent_rtb stL_len.symm rfl⟩
end Go.Proofs.YtncegikenkpcmaaGreat
namespace Go.Proofs.YtncegikenkpcmaaGreat
open Go.RowKit
set_option linter.unusedSimpArgs false
set_option linter.unusedVariables false
set_option maxRecDepth 20000
theorem shl1 {c : Nat} (h : c ≤ 8) : bShl .i64 1 (c : Int) = ((2 ^ c : Nat) : Int) := by
  have : c = 0 ∨ c = 1 ∨ c = 2 ∨ c = 3 ∨ c = 4 ∨ c = 5 ∨ c = 6 ∨ c = 7 ∨ c = 8 := by omega
  rcases this with rfl | rfl | rfl | rfl | rfl | rfl | rfl | rfl | rfl <;> rfl
theorem vaL_ref {l cats : Int} : vaL l cats = true ↔ 0 ≤ cats ∧ cats ≤ 8 ∧ 0 ≤ l ∧ l < ((2 ^ cats.toNat : Nat) : Int) := by
  simp only [vaL, Bool.and_eq_true, decide_eq_true_iff, isL_iff]
  constructor
  · rintro ⟨⟨⟨h1, h2⟩, h3, h4⟩, h5⟩
    refine ⟨h1, h2, h3, ?_⟩
    obtain ⟨c, rfl⟩ : ∃ c : Nat, cats = (c : Int) := ⟨cats.toNat, by omega⟩
    obtain ⟨x, rfl⟩ : ∃ x : Nat, l = (x : Int) := ⟨l.toNat, by omega⟩
    rw [bShr_nat (k := .i64) (a := x) (s := c) (by show c ≤ 64; omega)] at h5
    have h6 : x / 2 ^ c = 0 := by omega
    have := (Nat.div_eq_zero_iff_lt (Nat.two_pow_pos c)).1 h6
    rw [Int.toNat_natCast]; omega
  · rintro ⟨h1, h2, h3, h4⟩
    obtain ⟨c, rfl⟩ : ∃ c : Nat, cats = (c : Int) := ⟨cats.toNat, by omega⟩
    obtain ⟨x, rfl⟩ : ∃ x : Nat, l = (x : Int) := ⟨l.toNat, by omega⟩
    rw [Int.toNat_natCast] at h4
    have h5 : x < 2 ^ c := by omega
    have h6 : 2 ^ c ≤ 2 ^ 8 := Nat.pow_le_pow_right (by decide) (by omega)
    refine ⟨⟨⟨h1, h2⟩, h3, by omega⟩, ?_⟩
    rw [bShr_nat (k := .i64) (a := x) (s := c) (by show c ≤ 64; omega), Nat.div_eq_of_lt h5]; rfl
theorem rlValid_spec (W0 : World) (R : List HP) (l cats : Int) : Spec Tryz.prog W0 235 [.int .i64 l, .int .i64 cats] R (fun v B => v = .bool (vaL l cats) ∧ B = R) := by
  have hv := vaL_ref (l := l) (cats := cats)
  refine spec_body Tryz.func235 Tryz.ntmps235 rfl rfl ?_
  refine x_seq (x_region (s_val rfl (v_assign rfl) (x_nil (n_then (x_seq (x_region (s_val rfl (v_move rfl) (s_val rfl (v_geq rfl rfl) (s_val rfl (v_move rfl) ?_)))))))))
  refine s_and rfl rfl rfl ?_ ?_
  · intro g1_3
    refine s_val rfl (v_move rfl) (s_yes rfl rfl (s_val rfl (v_leq rfl rfl) (s_val rfl (v_pick_t rfl rfl) (s_val rfl (v_move rfl) ?_))))
    refine s_and rfl rfl rfl ?_ ?_
    · intro g1_7
      refine s_val rfl (v_move rfl) (s_yes rfl rfl (s_val rfl (v_geq rfl rfl) (s_val rfl (v_pick_t rfl rfl) (s_val rfl (v_move rfl) ?_))))
      refine s_and rfl rfl rfl ?_ ?_
      · intro g1_11
        obtain ⟨k, rfl⟩ : ∃ k : Nat, cats = (k : Int) := ⟨cats.toNat, by omega⟩
        have hp := Nat.two_pow_pos k
        rw [Int.toNat_natCast] at hv
        refine s_val rfl (v_move rfl) (s_yes rfl rfl (s_val rfl (v_move rfl) (s_yes rfl rfl ?_)))
        refine s_val rfl (v_shl rfl rfl (by omega) (shl1 (by omega))) ?_
        refine s_yes rfl rfl (s_val rfl (v_lss rfl rfl) (s_val rfl (v_pick_t rfl rfl) (s_val rfl (v_assign rfl) (x_nil (n_then (x_ret (x_done (.inl rfl) (.cons (r_tmp rfl) .nil) ?_)))))))
        refine ⟨_, ⟨?_, rfl⟩, inferInstance⟩
        refine congrArg Value.bool ?_
        rw [Bool.eq_iff_iff, hv]
        first
          | (rw [decide_eq_true_iff]; constructor
             · intro q; omega
             · intro q; omega)
          | (constructor
             · intro q; first | omega | (cases q)
             · intro q; omega)
      · intro g1_11
        refine s_no rfl rfl rfl rfl (s_no rfl rfl rfl rfl (s_no rfl rfl rfl rfl (s_val rfl (v_pick_f rfl rfl) (s_val rfl (v_assign rfl) (x_nil (n_then (x_ret (x_done (.inl rfl) (.cons (r_tmp rfl) .nil) ?_))))))))
        refine ⟨_, ⟨?_, rfl⟩, inferInstance⟩
        refine congrArg Value.bool ?_
        rw [Bool.eq_iff_iff, hv]
        first
          | (rw [decide_eq_true_iff]; constructor
             · intro q; omega
             · intro q; omega)
          | (constructor
             · intro q; first | omega | (cases q)
             · intro q; omega)
    · intro g1_7
      refine s_no rfl rfl rfl rfl (s_val rfl (v_pick_f rfl rfl) (s_val rfl (v_move rfl) (s_no rfl rfl rfl rfl (s_no rfl rfl rfl rfl (s_no rfl rfl rfl rfl (s_no rfl rfl rfl rfl (s_val rfl (v_pick_f rfl rfl) (s_val rfl (v_assign rfl) (x_nil (n_then (x_ret (x_done (.inl rfl) (.cons (r_tmp rfl) .nil) ?_))))))))))))
      refine ⟨_, ⟨?_, rfl⟩, inferInstance⟩
      refine congrArg Value.bool ?_
      rw [Bool.eq_iff_iff, hv]
      first
        | (rw [decide_eq_true_iff]; constructor
           · intro q; omega
           · intro q; omega)
        | (constructor
           · intro q; first | omega | (cases q)
           · intro q; omega)
  · intro g1_3
    refine s_no rfl rfl rfl rfl (s_val rfl (v_pick_f rfl rfl) (s_val rfl (v_move rfl) (s_no rfl rfl rfl rfl (s_no rfl rfl rfl rfl (s_val rfl (v_pick_f rfl rfl) (s_val rfl (v_move rfl) (s_no rfl rfl rfl rfl (s_no rfl rfl rfl rfl (s_no rfl rfl rfl rfl (s_no rfl rfl rfl rfl (s_val rfl (v_pick_f rfl rfl) (s_val rfl (v_assign rfl) (x_nil (n_then (x_ret (x_done (.inl rfl) (.cons (r_tmp rfl) .nil) ?_))))))))))))))))
    refine ⟨_, ⟨?_, rfl⟩, inferInstance⟩
    refine congrArg Value.bool ?_
    rw [Bool.eq_iff_iff, hv]
    first
      | (rw [decide_eq_true_iff]; constructor
         · intro q; omega
         · intro q; omega)
      | (constructor
         · intro q; first | omega | (cases q)
         · intro q; omega)
theorem rcIsG_spec (W0 : World) (R : List HP) (c : Cfg) (i : Int) : Spec Tryz.prog W0 188 [.agg (cfgV c).toArray, .int .i64 i] R (fun v B => v = .bool (isG c i) ∧ B = R) := by
  refine spec_body Tryz.func188 Tryz.ntmps188 rfl rfl ?_
  refine x_seq (x_region (s_do rfl (d_boxA rfl) ?_))
  rintro _ _ ⟨b2, rfl, rfl⟩
  refine s_val rfl (v_assign rfl) (x_nil (n_then (x_seq (x_region (s_val rfl (v_move rfl) (s_val rfl (v_geq rfl rfl) (s_val rfl (v_move rfl) ?_)))))))
  refine s_and rfl rfl rfl ?_ ?_
  · intro g1_3
    refine s_val rfl (v_move rfl) (s_yes rfl rfl ?_)
    refine s_val rfl (v_fieldAddr rfl Tryz.underlying28 rfl Tryz.sizeOf22 rfl (by first | exact Nat.zero_add _ | rfl)) ?_
    refine s_yes rfl rfl (s_val rfl (v_load Tryz.isAgg22 rfl (cell_own rfl)) ?_)
    refine s_yes rfl rfl (s_val rfl (v_len_slice Tryz.underlying22 rfl) (s_yes rfl rfl (s_val rfl (v_lss rfl rfl) (s_val rfl (v_pick_t rfl rfl) (s_val rfl (v_assign rfl) (x_nil (n_then (x_ret (x_done (.inl rfl) (.cons (r_tmp rfl) .nil) ?_)))))))))
    refine ⟨_, ⟨?_, rfl⟩, inferInstance⟩
    refine congrArg Value.bool ?_
    rw [Bool.eq_iff_iff, isG, decide_eq_true_iff]
    first
      | (rw [decide_eq_true_iff]; constructor
         · intro q; omega
         · intro q; omega)
      | (constructor
         · intro q; first | omega | (cases q)
         · intro q; omega)
  · intro g1_3
    refine s_no rfl rfl rfl rfl (s_no rfl rfl rfl rfl (s_no rfl rfl rfl rfl (s_no rfl rfl rfl rfl (s_val rfl (v_pick_f rfl rfl) (s_val rfl (v_assign rfl) (x_nil (n_then (x_ret (x_done (.inl rfl) (.cons (r_tmp rfl) .nil) ?_)))))))))
    refine ⟨_, ⟨?_, rfl⟩, inferInstance⟩
    refine congrArg Value.bool ?_
    rw [Bool.eq_iff_iff, isG, decide_eq_true_iff]
    first
      | (rw [decide_eq_true_iff]; constructor
         · intro q; omega
         · intro q; omega)
      | (constructor
         · intro q; first | omega | (cases q)
         · intro q; omega)
theorem any_next {w : Nat → Bool} {i : Nat} (h : ∀ j, j < i → w j = false) (h2 : w i = false) : ∀ j, j < i + 1 → w j = false := fun j hj => by
  rcases Nat.lt_or_ge j i with q | q
  · exact h j q
  · rw [show j = i by omega]; exact h2
theorem rcGuests_spec (W0 : World) (R : List HP) (c : Cfg) (h : CfOk W0 c) :
    Spec Tryz.prog W0 183 [.agg (cfgV c).toArray] R (fun v B => ∃ r, v = .tuple #[.bool (grW c), .int .i64 r] ∧ B = R) := by
  refine spec_body Tryz.func183 Tryz.ntmps183 rfl rfl ?_
  refine x_seq (x_region (s_do rfl (d_boxA rfl) ?_))
  rintro _ _ ⟨b1, rfl, rfl⟩
  refine s_val rfl (v_assign rfl) (s_val rfl (v_assign rfl) (x_nil (n_then (x_seq (x_seq (x_region ?_))))))
  refine s_val rfl (v_fieldAddr rfl Tryz.underlying28 rfl Tryz.sizeOf22 rfl (by first | exact Nat.zero_add _ | rfl)) ?_
  refine s_val rfl (v_load Tryz.isAgg22 rfl (cell_own rfl)) ?_
  refine s_val rfl (v_len_slice Tryz.underlying22 rfl) (s_val rfl (v_lss rfl rfl) (s_val rfl (v_move rfl) ?_))
  refine s_or rfl rfl rfl ?_ ?_
  · intro g1_5
    refine s_no rfl rfl rfl rfl (s_no rfl rfl rfl rfl (s_no rfl rfl rfl rfl (s_val rfl (v_pick_t rfl rfl) (x_nil (n_then (x_ift rfl (x_seq (x_region (s_val rfl (v_assign rfl) (s_val rfl (v_assign rfl) (x_nil (n_then (x_ret (r_then (x_done (.inl rfl) (.cons (r_tmp rfl) (.cons (r_tmp rfl) .nil)) ?_)))))))))))))))
    rw [grW, decide_eq_true (by omega), Bool.true_or]
    exact ⟨_, ⟨0, rfl, rfl⟩, inferInstance⟩
  · intro g1_5
    refine s_val rfl (v_fieldAddr rfl Tryz.underlying28 rfl Tryz.sizeOf22 rfl (by first | exact Nat.zero_add _ | rfl)) ?_
    refine s_yes rfl rfl (s_val rfl (v_load Tryz.isAgg22 rfl (cell_own rfl)) ?_)
    refine s_yes rfl rfl (s_val rfl (v_len_slice Tryz.underlying22 rfl) (s_yes rfl rfl (s_val rfl (v_gtr rfl rfl) (s_val rfl (v_pick_f rfl rfl) (x_nil (n_then ?_))))))
    refine x_if rfl ?_ ?_
    · intro c1
      refine x_seq (x_region (s_val rfl (v_assign rfl) (s_val rfl (v_assign rfl) (x_nil (n_then (x_ret (r_then (x_done (.inl rfl) (.cons (r_tmp rfl) (.cons (r_tmp rfl) .nil)) ?_))))))))
      rw [grW, decide_eq_true (by omega), Bool.true_or]
      exact ⟨_, ⟨0, rfl, rfl⟩, inferInstance⟩
    · intro c1
      refine x_skip (n_then (x_seq (x_seq (x_region (s_val rfl (v_assign rfl) (x_nil (n_then (x_block ?_))))))))
      refine x_loop (fun i : Nat => i ≤ c.gl.length ∧ (∀ j, j < i → gstW c.cats (c.gl.getD j (0, 0, 0)) = false)) (fun i => [(1, .pointer (some ⟨b1, 0, none⟩)), (4, .int .i64 i)]) (fun _ => pt b1 (cfO c) :: R) (fun i => c.gl.length - i) 0 ?_ ?_ ?_ ?_
      · exact ⟨Nat.zero_le _, fun j hj => absurd hj (Nat.not_lt_zero _)⟩
      · repeat (first | exact sub_nil | refine sub_cons rfl ?_)
      · exact inferInstance
      · intro i ⟨hi, hI⟩
        refine x_seq (x_seq (x_region (s_val rfl (v_move rfl) ?_)))
        refine s_val rfl (v_fieldAddr rfl Tryz.underlying28 rfl Tryz.sizeOf22 rfl (by first | exact Nat.zero_add _ | rfl)) ?_
        refine s_val rfl (v_load Tryz.isAgg22 rfl (cell_own rfl)) ?_
        refine s_val rfl (v_len_slice Tryz.underlying22 rfl) (s_val rfl (v_lss rfl rfl) (x_nil (n_then ?_)))
        refine x_if rfl ?_ ?_
        · intro c4
          refine x_skip (n_then (x_seq (x_block (x_seq ?_))))
          have hi1 : i < c.gl.length := by omega
          obtain ⟨g, o, hga, hc⟩ := (h.g []).at_ hi1
          obtain ⟨x, hx⟩ : ∃ x, c.gl[i] = x := ⟨_, rfl⟩
          have hgd : c.gl.getD i (0, 0, 0) = x := by simp [List.getD, hi1, hx]
          rw [hx] at hc
          have hbad : gstW c.cats x = true → grW c = true := fun q => by
            rw [grW, anyW_yes (w := fun i => gstW c.cats (c.gl.getD i (0, 0, 0))) hi1 (by rw [hgd]; exact q), Bool.or_true]
          have hgood := fun q => any_next (w := fun i => gstW c.cats (c.gl.getD i (0, 0, 0))) hI (show gstW c.cats (c.gl.getD i (0, 0, 0)) = false by rw [hgd]; exact q)
          obtain ⟨v, hv⟩ : ∃ v, vaL x.1 c.cats = v := ⟨_, rfl⟩
          have hno := gstW_no (cats := c.cats) (g := x)
          have hye := gstW_yes (cats := c.cats) (g := x)
          rw [hv] at hno hye
          refine x_region ?_
          refine s_val rfl (v_fieldAddr rfl Tryz.underlying28 rfl Tryz.sizeOf22 rfl (by first | exact Nat.zero_add _ | rfl)) ?_
          refine s_val rfl (v_load Tryz.isAgg22 rfl (cell_own rfl)) ?_
          refine s_val rfl (v_move rfl) ?_
          refine s_val rfl (v_idxA Tryz.underlying22 Tryz.sizeOf95 rfl hga rfl rfl hi1 (by first | exact Nat.zero_add _ | rfl)) ?_
          refine s_val rfl (v_loadAgg Tryz.isAgg95 Tryz.sizeOf95 rfl hc.weak rfl) ?_
          refine s_do rfl (d_allocA Tryz.zeroValue95) ?_
          rintro _ _ ⟨bx, rfl, rfl⟩
          refine s_do0 (d_storeAll Tryz.sizeOf95 rfl rfl rfl rfl rfl) ?_
          rintro _ _ rfl
          refine x_nil (n_then (x_seq (x_region ?_)))
          refine s_val rfl (v_fieldAddr rfl Tryz.underlying95 rfl Tryz.sizeOf3 rfl (by first | exact Nat.zero_add _ | rfl)) ?_
          refine s_val rfl (v_load Tryz.isAgg3 rfl (cell_own rfl)) ?_
          refine s_val rfl (v_fieldAddr rfl Tryz.underlying28 rfl Tryz.sizeOf3 rfl (by first | exact Nat.zero_add _ | rfl)) ?_
          refine s_val rfl (v_load Tryz.isAgg3 rfl (cell_own rfl)) ?_
          refine s_do rfl (d_call Tryz.call235 rfl (rlValid_spec W0 _ x.1 c.cats)) ?_
          rintro _ B_ ⟨rfl, hB_⟩
          obtain rfl := hB_.symm
          rw [hv]
          refine s_val rfl (v_not rfl) (s_val rfl (v_move rfl) ?_)
          refine s_or rfl rfl rfl ?_ ?_
          · intro g7_7
            refine s_no rfl rfl rfl rfl (s_no rfl rfl rfl rfl (s_val rfl (v_pick_t rfl rfl) (s_val rfl (v_move rfl) (s_no rfl rfl rfl rfl (s_no rfl rfl rfl rfl (s_no rfl rfl rfl rfl (s_val rfl (v_pick_t rfl rfl) (s_val rfl (v_move rfl) (s_no rfl rfl rfl rfl (s_no rfl rfl rfl rfl (s_no rfl rfl rfl rfl (s_val rfl (v_pick_t rfl rfl) (s_val rfl (v_move rfl) (s_no rfl rfl rfl rfl (s_no rfl rfl rfl rfl (s_no rfl rfl rfl rfl (s_no rfl rfl rfl rfl (s_no rfl rfl rfl rfl (s_no rfl rfl rfl rfl (s_val rfl (v_pick_t rfl rfl) (x_nil (n_then (x_ift rfl ?_)))))))))))))))))))))))
            refine x_seq (x_region (s_val rfl (v_move rfl) (s_val rfl (v_assign rfl) (s_val rfl (v_assign rfl) (x_nil (n_then (x_ret (r_block (r_then (r_then (r_block (r_then (x_done (.inl rfl) (.cons (r_tmp rfl) (.cons (r_tmp rfl) .nil)) ?_)))))))))))))
            rw [hbad (hye (by first | (intro q; omega) | (intro q; simp_all)))]
            exact ⟨_, ⟨_, rfl, rfl⟩, inferInstance⟩
          · intro g7_7
            refine s_val rfl (v_fieldAddr rfl Tryz.underlying95 rfl Tryz.sizeOf3 rfl (by first | exact Nat.zero_add _ | rfl)) ?_
            refine s_yes rfl rfl (s_val rfl (v_load Tryz.isAgg3 rfl (cell_own rfl)) ?_)
            refine s_yes rfl rfl (s_val rfl (v_lss rfl rfl) (s_val rfl (v_pick_f rfl rfl) (s_val rfl (v_move rfl) ?_)))
            refine s_or rfl rfl rfl ?_ ?_
            · intro g7_12
              refine s_no rfl rfl rfl rfl (s_no rfl rfl rfl rfl (s_val rfl (v_pick_t rfl rfl) (s_val rfl (v_move rfl) (s_no rfl rfl rfl rfl (s_no rfl rfl rfl rfl (s_no rfl rfl rfl rfl (s_val rfl (v_pick_t rfl rfl) (s_val rfl (v_move rfl) (s_no rfl rfl rfl rfl (s_no rfl rfl rfl rfl (s_no rfl rfl rfl rfl (s_no rfl rfl rfl rfl (s_no rfl rfl rfl rfl (s_no rfl rfl rfl rfl (s_val rfl (v_pick_t rfl rfl) (x_nil (n_then (x_ift rfl (x_seq (x_region (s_val rfl (v_move rfl) (s_val rfl (v_assign rfl) (s_val rfl (v_assign rfl) ?_)))))))))))))))))))))))
              refine x_nil (n_then (x_ret (r_block (r_then (r_then (r_block (r_then (x_done (.inl rfl) (.cons (r_tmp rfl) (.cons (r_tmp rfl) .nil)) ?_))))))))
              rw [hbad (hye (by first | (intro q; omega) | (intro q; simp_all)))]
              exact ⟨_, ⟨_, rfl, rfl⟩, inferInstance⟩
            · intro g7_12
              refine s_val rfl (v_fieldAddr rfl Tryz.underlying95 rfl Tryz.sizeOf3 rfl (by first | exact Nat.zero_add _ | rfl)) ?_
              refine s_yes rfl rfl (s_val rfl (v_load Tryz.isAgg3 rfl (cell_own rfl)) ?_)
              refine s_yes rfl rfl (s_val rfl (v_gtr rfl rfl) (s_val rfl (v_pick_f rfl rfl) (s_val rfl (v_move rfl) ?_)))
              refine s_or rfl rfl rfl ?_ ?_
              · intro g7_17
                refine s_no rfl rfl rfl rfl (s_no rfl rfl rfl rfl (s_val rfl (v_pick_t rfl rfl) (s_val rfl (v_move rfl) (s_no rfl rfl rfl rfl (s_no rfl rfl rfl rfl (s_no rfl rfl rfl rfl (s_no rfl rfl rfl rfl (s_no rfl rfl rfl rfl (s_no rfl rfl rfl rfl (s_val rfl (v_pick_t rfl rfl) (x_nil (n_then (x_ift rfl (x_seq (x_region (s_val rfl (v_move rfl) (s_val rfl (v_assign rfl) (s_val rfl (v_assign rfl) (x_nil (n_then (x_ret (r_block (r_then ?_)))))))))))))))))))))))
                refine r_then (r_block (r_then (x_done (.inl rfl) (.cons (r_tmp rfl) (.cons (r_tmp rfl) .nil)) ?_)))
                rw [hbad (hye (by first | (intro q; omega) | (intro q; simp_all)))]
                exact ⟨_, ⟨_, rfl, rfl⟩, inferInstance⟩
              · intro g7_17
                refine s_val rfl (v_fieldAddr rfl Tryz.underlying95 rfl Tryz.sizeOf3 rfl (by first | exact Nat.zero_add _ | rfl)) ?_
                refine s_yes rfl rfl (s_val rfl (v_load Tryz.isAgg3 rfl (cell_own rfl)) ?_)
                refine s_yes rfl rfl (s_val rfl (v_lss rfl rfl) (s_val rfl (v_pick_f rfl rfl) (s_val rfl (v_move rfl) ?_)))
                refine s_or rfl rfl rfl ?_ ?_
                · intro g7_22
                  refine s_no rfl rfl rfl rfl (s_no rfl rfl rfl rfl (s_no rfl rfl rfl rfl (s_no rfl rfl rfl rfl (s_no rfl rfl rfl rfl (s_val rfl (v_pick_t rfl rfl) (x_nil (n_then (x_ift rfl (x_seq (x_region (s_val rfl (v_move rfl) (s_val rfl (v_assign rfl) (s_val rfl (v_assign rfl) (x_nil (n_then (x_ret (r_block (r_then (r_then (r_block (r_then (x_done (.inl rfl) (.cons (r_tmp rfl) (.cons (r_tmp rfl) .nil)) ?_))))))))))))))))))))))
                  rw [hbad (hye (by first | (intro q; omega) | (intro q; simp_all)))]
                  exact ⟨_, ⟨_, rfl, rfl⟩, inferInstance⟩
                · intro g7_22
                  refine s_val rfl (v_fieldAddr rfl Tryz.underlying95 rfl Tryz.sizeOf3 rfl (by first | exact Nat.zero_add _ | rfl)) ?_
                  refine s_yes rfl rfl (s_val rfl (v_load Tryz.isAgg3 rfl (cell_own rfl)) ?_)
                  refine s_yes rfl rfl ?_
                  refine s_val rfl (v_fieldAddr rfl Tryz.underlying95 rfl Tryz.sizeOf3 rfl (by first | exact Nat.zero_add _ | rfl)) ?_
                  refine s_yes rfl rfl (s_val rfl (v_load Tryz.isAgg3 rfl (cell_own rfl)) ?_)
                  refine s_yes rfl rfl ?_
                  refine s_val rfl (v_sub rfl rfl (w64 (by omega))) ?_
                  refine s_yes rfl rfl (s_val rfl (v_gtr rfl rfl) (s_val rfl (v_pick_f rfl rfl) (x_nil (n_then ?_))))
                  refine x_if rfl ?_ ?_
                  · intro c7
                    refine x_seq (x_region (s_val rfl (v_move rfl) (s_val rfl (v_assign rfl) (s_val rfl (v_assign rfl) (x_nil (n_then (x_ret (r_block (r_then (r_then (r_block (r_then (x_done (.inl rfl) (.cons (r_tmp rfl) (.cons (r_tmp rfl) .nil)) ?_)))))))))))))
                    rw [hbad (hye (by first | (intro q; omega) | (intro q; simp_all)))]
                    exact ⟨_, ⟨_, rfl, rfl⟩, inferInstance⟩
                  · intro c7
                    refine x_skip (n_block (n_then (x_region (s_val rfl (v_move rfl) ?_))))
                    refine s_val rfl (v_add rfl rfl (by first | exact w64 (by omega) | rfl)) ?_
                    refine s_val rfl (v_assign rfl) (x_nil (n_then ?_))
                    refine inv_intro (i + 1) ?_ ?_ ?_ ?_
                    · refine ⟨by omega, hgood (hno.2 ⟨by simp_all, by omega, by omega, by omega, by omega⟩)⟩
                    · omega
                    · repeat (first | exact sub_nil | refine sub_cons rfl ?_)
                    · exact inferInstance
        · intro c4
          refine x_exit (e_then (e_then (e_block (n_then (x_seq (x_region (s_val rfl (v_assign rfl) (s_val rfl (v_assign rfl) (x_nil (n_then (x_ret (x_done (.inl rfl) (.cons (r_tmp rfl) (.cons (r_tmp rfl) .nil)) ?_))))))))))))
          obtain rfl : i = c.gl.length := by omega
          rw [grW, decide_eq_false (by omega), Bool.false_or, anyW_no hI]
          exact ⟨_, ⟨0, rfl, rfl⟩, inferInstance⟩
theorem rcRanges_spec (W0 : World) (R : List HP) (c : Cfg) (h : CfOk W0 c) :
    Spec Tryz.prog W0 184 [.agg (cfgV c).toArray] R (fun v B => ∃ r, v = .tuple #[.bool (raW c), .int .i64 r] ∧ B = R) := by
  refine spec_body Tryz.func184 Tryz.ntmps184 rfl rfl ?_
  refine x_seq (x_region (s_do rfl (d_boxA rfl) ?_))
  rintro _ _ ⟨b1, rfl, rfl⟩
  refine s_val rfl (v_assign rfl) (s_val rfl (v_assign rfl) (x_nil (n_then (x_seq (x_seq (x_region ?_))))))
  refine s_val rfl (v_fieldAddr rfl Tryz.underlying28 rfl Tryz.sizeOf23 rfl (by first | exact Nat.zero_add _ | rfl)) ?_
  refine s_val rfl (v_load Tryz.isAgg23 rfl (cell_own rfl)) ?_
  refine s_val rfl (v_len_slice Tryz.underlying23 rfl) (s_val rfl (v_gtr rfl rfl) (x_nil (n_then ?_)))
  refine x_if rfl ?_ ?_
  · intro c1
    refine x_seq (x_region (s_val rfl (v_assign rfl) (s_val rfl (v_assign rfl) (x_nil (n_then (x_ret (r_then (x_done (.inl rfl) (.cons (r_tmp rfl) (.cons (r_tmp rfl) .nil)) ?_))))))))
    rw [raW, decide_eq_true (by omega), Bool.true_or]
    exact ⟨_, ⟨0, rfl, rfl⟩, inferInstance⟩
  · intro c1
    refine x_skip (n_then (x_seq (x_region ?_)))
    refine s_do rfl (d_call Tryz.call77 rfl (rpNew_spec03 W0 _ 32 (by decide))) ?_
    rintro _ B_ ⟨bt, rfl, hB_⟩
    obtain rfl := hB_.symm
    refine s_val rfl (v_move rfl) (s_val rfl (v_extract rfl rfl) (s_val rfl (v_extract rfl rfl) (s_val rfl (v_assign rfl) (s_val rfl (v_assign rfl) (x_nil (n_then (x_seq (x_seq (x_region (s_val rfl (v_assign rfl) (x_nil (n_then (x_block ?_)))))))))))))
    refine x_loop (fun X : Nat × List Int => X.1 ≤ c.rl.length ∧ (∀ j, j < X.1 → rgW c j = false) ∧ X.2.length = 32 ∧ RT (rgT c X.1) X.2) (fun X => [(1, .pointer (some ⟨b1, 0, none⟩)), (4, .pointer (some ⟨bt, 0, none⟩)), (6, .int .i64 X.1)]) (fun X => rtbH bt X.2 :: pt b1 (cfO c) :: R) (fun X => c.rl.length - X.1) (0, List.replicate 32 (-1)) ?_ ?_ ?_ ?_
    · exact ⟨Nat.zero_le _, fun j hj => absurd hj (Nat.not_lt_zero _), rfl, rt_nil 32⟩
    · repeat (first | exact sub_nil | refine sub_cons rfl ?_)
    · exact inferInstance
    · intro ⟨i, L⟩ ⟨hi, hI, hL, hRT⟩
      dsimp only at hi hI hL hRT ⊢
      refine x_seq (x_seq (x_region (s_val rfl (v_move rfl) ?_)))
      refine s_val rfl (v_fieldAddr rfl Tryz.underlying28 rfl Tryz.sizeOf23 rfl (by first | exact Nat.zero_add _ | rfl)) ?_
      refine s_val rfl (v_load Tryz.isAgg23 rfl (cell_own rfl)) ?_
      refine s_val rfl (v_len_slice Tryz.underlying23 rfl) (s_val rfl (v_lss rfl rfl) (x_nil (n_then ?_)))
      refine x_if rfl ?_ ?_
      · intro c5
        refine x_skip (n_then (x_seq (x_block (x_seq ?_))))
        have hi1 : i < c.rl.length := by omega
        obtain ⟨g, o, hga, hc⟩ := (h.r []).at_ hi1
        obtain ⟨x, hx⟩ : ∃ x, c.rl[i] = x := ⟨_, rfl⟩
        have hA : rlA c i = x := by simp [rlA, List.getD, hi1, hx]
        rw [hx] at hc
        have hT : rgT c (i + 1) = if vaL x.1 c.cats = true then gvR (rgT c i) 32 x.2.1 x.2.2 i else rgT c i := by rw [rgT, hA]
        have hW : rgW c i = !(vaL x.1 c.cats && decide (gvE (rgT c i) 32 x.2.1 x.2.2 i = 0)) := by rw [rgW, hA]
        have hE := rt_e hRT (n := 32) (by rw [hL]; rfl) x.2.1 x.2.2 i
        have hS := rt_s hRT (n := 32) (by rw [hL]; rfl) (by decide) x.2.1 x.2.2 i
        rw [← hE] at hW
        have hbad : rgW c i = true → raW c = true := fun q => by rw [raW, anyW_yes hi1 q, Bool.or_true]
        obtain ⟨v, hv⟩ : ∃ v, vaL x.1 c.cats = v := ⟨_, rfl⟩
        rw [hv] at hT hW
        refine x_region ?_
        refine s_val rfl (v_fieldAddr rfl Tryz.underlying28 rfl Tryz.sizeOf23 rfl (by first | exact Nat.zero_add _ | rfl)) ?_
        refine s_val rfl (v_load Tryz.isAgg23 rfl (cell_own rfl)) ?_
        refine s_val rfl (v_move rfl) ?_
        refine s_val rfl (v_idxA Tryz.underlying23 Tryz.sizeOf151 rfl hga rfl rfl hi1 (by first | exact Nat.zero_add _ | rfl)) ?_
        refine s_val rfl (v_loadAgg Tryz.isAgg151 Tryz.sizeOf151 rfl hc.weak rfl) ?_
        refine s_do rfl (d_allocA Tryz.zeroValue151) ?_
        rintro _ _ ⟨bx, rfl, rfl⟩
        refine s_do0 (d_storeAll Tryz.sizeOf151 rfl rfl rfl rfl rfl) ?_
        rintro _ _ rfl
        refine x_nil (n_then (x_seq (x_region ?_)))
        refine s_val rfl (v_fieldAddr rfl Tryz.underlying151 rfl Tryz.sizeOf3 rfl (by first | exact Nat.zero_add _ | rfl)) ?_
        refine s_val rfl (v_load Tryz.isAgg3 rfl (cell_own rfl)) ?_
        refine s_val rfl (v_fieldAddr rfl Tryz.underlying28 rfl Tryz.sizeOf3 rfl (by first | exact Nat.zero_add _ | rfl)) ?_
        refine s_val rfl (v_load Tryz.isAgg3 rfl (cell_own rfl)) ?_
        refine s_do rfl (d_call Tryz.call235 rfl (rlValid_spec W0 _ x.1 c.cats)) ?_
        rintro _ B_ ⟨rfl, hB_⟩
        obtain rfl := hB_.symm
        rw [hv]
        refine s_val rfl (v_not rfl) (s_val rfl (v_move rfl) ?_)
        refine s_or rfl rfl rfl ?_ ?_
        · intro g8_7
          refine s_no rfl rfl rfl rfl (s_no rfl rfl rfl rfl (s_no rfl rfl rfl rfl (s_no rfl rfl rfl rfl (s_no rfl rfl rfl rfl (s_no rfl rfl rfl rfl (s_no rfl rfl rfl rfl (s_val rfl (v_pick_t rfl rfl) (x_nil (n_then (x_ift rfl (x_seq (x_region (s_val rfl (v_move rfl) (s_val rfl (v_assign rfl) (s_val rfl (v_assign rfl) (x_nil (n_then (x_ret (r_block (r_then (r_then (r_block (r_then ?_)))))))))))))))))))))))
          refine x_done (.inl rfl) (.cons (r_tmp rfl) (.cons (r_tmp rfl) .nil)) ?_
          rw [hbad (by rw [hW]; first | (simp_all; done) | (rw [decide_eq_false (by omega), Bool.and_false]; rfl))]
          exact ⟨_, ⟨_, rfl, rfl⟩, inferInstance⟩
        · intro g8_7
          refine s_val rfl (v_move rfl) (s_yes rfl rfl ?_)
          refine s_val rfl (v_fieldAddr rfl Tryz.underlying151 rfl Tryz.sizeOf3 rfl (by first | exact Nat.zero_add _ | rfl)) ?_
          refine s_yes rfl rfl (s_val rfl (v_load Tryz.isAgg3 rfl (cell_own rfl)) ?_)
          refine s_yes rfl rfl ?_
          refine s_val rfl (v_fieldAddr rfl Tryz.underlying151 rfl Tryz.sizeOf3 rfl (by first | exact Nat.zero_add _ | rfl)) ?_
          refine s_yes rfl rfl (s_val rfl (v_load Tryz.isAgg3 rfl (cell_own rfl)) ?_)
          refine s_yes rfl rfl (s_val rfl (v_move rfl) (s_yes rfl rfl ?_))
          refine s_do rfl (d_call1 Tryz.call79 rfl (rpGive_spec W0 _ bt L (by omega) x.2.1 x.2.2 i)) ?_
          rintro _ B_ ⟨rfl, hB_⟩
          obtain rfl := hB_.symm
          refine s_yes rfl rfl (s_val rfl (v_neq rfl rfl) (s_val rfl (v_pick_f rfl rfl) (x_nil (n_then ?_))))
          refine x_if rfl ?_ ?_
          · intro c8
            refine x_seq (x_region (s_val rfl (v_move rfl) (s_val rfl (v_assign rfl) (s_val rfl (v_assign rfl) (x_nil (n_then (x_ret (r_block (r_then (r_then (r_block (r_then (x_done (.inl rfl) (.cons (r_tmp rfl) (.cons (r_tmp rfl) .nil)) ?_)))))))))))))
            rw [hbad (by rw [hW]; first | (simp_all; done) | (rw [decide_eq_false (by omega), Bool.and_false]; rfl))]
            exact ⟨_, ⟨_, rfl, rfl⟩, inferInstance⟩
          · intro c8
            refine x_skip (n_block (n_then ?_))
            have hv1 : v = true := by first | assumption | simp_all
            have hz : rpE L x.2.1 x.2.2 i = 0 := by omega
            rw [hv1, if_pos rfl] at hT
            rw [hv1, hz] at hW
            refine x_region (s_val rfl (v_move rfl) ?_)
            refine s_val rfl (v_add rfl rfl (by first | exact w64 (by omega) | rfl)) ?_
            refine s_val rfl (v_assign rfl) (x_nil (n_then ?_))
            refine inv_intro (i + 1, rpS L x.2.1 x.2.2 i) ?_ ?_ ?_ ?_
            · exact ⟨by omega, any_next hI hW, rpS_len.trans hL, by rw [hT]; exact hS⟩
            · omega
            · repeat (first | exact sub_nil | refine sub_cons rfl ?_)
            · exact inferInstance
      · intro c5
        refine x_exit (e_then (e_then (e_block (n_then (x_seq (x_region (s_val rfl (v_assign rfl) (s_val rfl (v_assign rfl) (x_nil (n_then (x_ret (x_done (.inl rfl) (.cons (r_tmp rfl) (.cons (r_tmp rfl) .nil)) ?_))))))))))))
        obtain rfl : i = c.rl.length := by omega
        rw [raW, decide_eq_false (by omega), Bool.false_or, anyW_no hI]
        exact ⟨_, ⟨0, rfl, rfl⟩, inferInstance⟩
theorem rcSlots_spec (W0 : World) (R : List HP) (c : Cfg) (h : CfOk W0 c) :
    Spec Tryz.prog W0 187 [.agg (cfgV c).toArray] R (fun v B => ∃ r, v = .tuple #[.bool (slW c), .int .i64 r] ∧ B = R) := by
  refine spec_body Tryz.func187 Tryz.ntmps187 rfl rfl ?_
  refine x_seq (x_region (s_do rfl (d_boxA rfl) ?_))
  rintro _ _ ⟨b1, rfl, rfl⟩
  refine s_val rfl (v_assign rfl) (s_val rfl (v_assign rfl) (x_nil (n_then (x_seq (x_seq (x_region ?_))))))
  refine s_val rfl (v_fieldAddr rfl Tryz.underlying28 rfl Tryz.sizeOf26 rfl (by first | exact Nat.zero_add _ | rfl)) ?_
  refine s_val rfl (v_load Tryz.isAgg26 rfl (cell_own rfl)) ?_
  refine s_val rfl (v_len_slice Tryz.underlying26 rfl) (s_val rfl (v_lss rfl rfl) (s_val rfl (v_move rfl) ?_))
  refine s_or rfl rfl rfl ?_ ?_
  · intro g1_5
    refine s_no rfl rfl rfl rfl (s_no rfl rfl rfl rfl (s_no rfl rfl rfl rfl (s_val rfl (v_pick_t rfl rfl) (x_nil (n_then (x_ift rfl (x_seq (x_region (s_val rfl (v_assign rfl) (s_val rfl (v_assign rfl) (x_nil (n_then (x_ret (r_then (x_done (.inl rfl) (.cons (r_tmp rfl) (.cons (r_tmp rfl) .nil)) ?_)))))))))))))))
    rw [slW, decide_eq_true (by omega), Bool.true_or]
    exact ⟨_, ⟨0, rfl, rfl⟩, inferInstance⟩
  · intro g1_5
    refine s_val rfl (v_fieldAddr rfl Tryz.underlying28 rfl Tryz.sizeOf26 rfl (by first | exact Nat.zero_add _ | rfl)) ?_
    refine s_yes rfl rfl (s_val rfl (v_load Tryz.isAgg26 rfl (cell_own rfl)) ?_)
    refine s_yes rfl rfl (s_val rfl (v_len_slice Tryz.underlying26 rfl) (s_yes rfl rfl (s_val rfl (v_gtr rfl rfl) (s_val rfl (v_pick_f rfl rfl) (x_nil (n_then ?_))))))
    refine x_if rfl ?_ ?_
    · intro c1
      refine x_seq (x_region (s_val rfl (v_assign rfl) (s_val rfl (v_assign rfl) (x_nil (n_then (x_ret (r_then (x_done (.inl rfl) (.cons (r_tmp rfl) (.cons (r_tmp rfl) .nil)) ?_))))))))
      rw [slW, decide_eq_true (by omega), Bool.true_or]
      exact ⟨_, ⟨0, rfl, rfl⟩, inferInstance⟩
    · intro c1
      refine x_skip (n_then (x_seq (x_seq (x_region (s_val rfl (v_assign rfl) (x_nil (n_then (x_block ?_))))))))
      refine x_loop (fun i : Nat => i ≤ c.sl.length ∧ (∀ j, j < i → sltW c (c.sl.getD j (0, 0)) = false)) (fun i => [(1, .pointer (some ⟨b1, 0, none⟩)), (4, .int .i64 i)]) (fun _ => pt b1 (cfO c) :: R) (fun i => c.sl.length - i) 0 ?_ ?_ ?_ ?_
      · exact ⟨Nat.zero_le _, fun j hj => absurd hj (Nat.not_lt_zero _)⟩
      · repeat (first | exact sub_nil | refine sub_cons rfl ?_)
      · exact inferInstance
      · intro i ⟨hi, hI⟩
        refine x_seq (x_seq (x_region (s_val rfl (v_move rfl) ?_)))
        refine s_val rfl (v_fieldAddr rfl Tryz.underlying28 rfl Tryz.sizeOf26 rfl (by first | exact Nat.zero_add _ | rfl)) ?_
        refine s_val rfl (v_load Tryz.isAgg26 rfl (cell_own rfl)) ?_
        refine s_val rfl (v_len_slice Tryz.underlying26 rfl) (s_val rfl (v_lss rfl rfl) (x_nil (n_then ?_)))
        refine x_if rfl ?_ ?_
        · intro c4
          refine x_skip (n_then (x_seq (x_block (x_seq ?_))))
          have hi1 : i < c.sl.length := by omega
          obtain ⟨g, o, hga, hc⟩ := (h.s []).at_ hi1
          obtain ⟨x, hx⟩ : ∃ x, c.sl[i] = x := ⟨_, rfl⟩
          have hgd : c.sl.getD i (0, 0) = x := by simp [List.getD, hi1, hx]
          rw [hx] at hc
          have hbad : sltW c x = true → slW c = true := fun q => by
            rw [slW, anyW_yes (w := fun i => sltW c (c.sl.getD i (0, 0))) hi1 (by rw [hgd]; exact q), Bool.or_true]
          have hgood := fun q => any_next (w := fun i => sltW c (c.sl.getD i (0, 0))) hI (show sltW c (c.sl.getD i (0, 0)) = false by rw [hgd]; exact q)
          obtain ⟨v, hv⟩ : ∃ v, isG c x.1 = v := ⟨_, rfl⟩
          have hW : sltW c x = !(v && decide (1 ≤ x.2 ∧ x.2 ≤ 32)) := by rw [sltW, hv]
          refine x_region ?_
          refine s_val rfl (v_fieldAddr rfl Tryz.underlying28 rfl Tryz.sizeOf26 rfl (by first | exact Nat.zero_add _ | rfl)) ?_
          refine s_val rfl (v_load Tryz.isAgg26 rfl (cell_own rfl)) ?_
          refine s_val rfl (v_move rfl) ?_
          refine s_val rfl (v_idxA Tryz.underlying26 Tryz.sizeOf202 rfl hga rfl rfl hi1 (by first | exact Nat.zero_add _ | rfl)) ?_
          refine s_val rfl (v_loadAgg Tryz.isAgg202 Tryz.sizeOf202 rfl hc.weak rfl) ?_
          refine s_do rfl (d_allocA Tryz.zeroValue202) ?_
          rintro _ _ ⟨bx, rfl, rfl⟩
          refine s_do0 (d_storeAll Tryz.sizeOf202 rfl rfl rfl rfl rfl) ?_
          rintro _ _ rfl
          refine x_nil (n_then (x_seq (x_region (s_val rfl (v_loadAll Tryz.isAgg28 Tryz.sizeOf28 rfl rfl) ?_))))
          refine s_val rfl (v_fieldAddr rfl Tryz.underlying202 rfl Tryz.sizeOf3 rfl (by first | exact Nat.zero_add _ | rfl)) ?_
          refine s_val rfl (v_load Tryz.isAgg3 rfl (cell_own rfl)) ?_
          refine s_do rfl (d_call Tryz.call188 rfl (rcIsG_spec W0 _ c x.1)) ?_
          rintro _ B_ ⟨rfl, hB_⟩
          obtain rfl := hB_.symm
          rw [hv]
          refine s_val rfl (v_not rfl) (s_val rfl (v_move rfl) ?_)
          refine s_or rfl rfl rfl ?_ ?_
          · intro g7_6
            refine s_no rfl rfl rfl rfl (s_no rfl rfl rfl rfl (s_val rfl (v_pick_t rfl rfl) (s_val rfl (v_move rfl) (s_no rfl rfl rfl rfl (s_no rfl rfl rfl rfl (s_no rfl rfl rfl rfl (s_val rfl (v_pick_t rfl rfl) (x_nil (n_then (x_ift rfl (x_seq (x_region (s_val rfl (v_move rfl) (s_val rfl (v_assign rfl) (s_val rfl (v_assign rfl) (x_nil (n_then (x_ret (r_block (r_then (r_then (r_block (r_then ?_)))))))))))))))))))))))
            refine x_done (.inl rfl) (.cons (r_tmp rfl) (.cons (r_tmp rfl) .nil)) ?_
            rw [hbad (by rw [hW]; first | (rw [decide_eq_false (by omega), Bool.and_false]; rfl) | (simp_all; done))]
            exact ⟨_, ⟨_, rfl, rfl⟩, inferInstance⟩
          · intro g7_6
            refine s_val rfl (v_fieldAddr rfl Tryz.underlying202 rfl Tryz.sizeOf3 rfl (by first | exact Nat.zero_add _ | rfl)) ?_
            refine s_yes rfl rfl (s_val rfl (v_load Tryz.isAgg3 rfl (cell_own rfl)) ?_)
            refine s_yes rfl rfl (s_val rfl (v_lss rfl rfl) (s_val rfl (v_pick_f rfl rfl) (s_val rfl (v_move rfl) ?_)))
            refine s_or rfl rfl rfl ?_ ?_
            · intro g7_11
              refine s_no rfl rfl rfl rfl (s_no rfl rfl rfl rfl (s_val rfl (v_pick_t rfl rfl) (x_nil (n_then (x_ift rfl (x_seq (x_region (s_val rfl (v_move rfl) (s_val rfl (v_assign rfl) (s_val rfl (v_assign rfl) (x_nil (n_then (x_ret (r_block (r_then (r_then (r_block (r_then (x_done (.inl rfl) (.cons (r_tmp rfl) (.cons (r_tmp rfl) .nil)) ?_)))))))))))))))))))
              rw [hbad (by rw [hW]; first | (rw [decide_eq_false (by omega), Bool.and_false]; rfl) | (simp_all; done))]
              exact ⟨_, ⟨_, rfl, rfl⟩, inferInstance⟩
            · intro g7_11
              refine s_val rfl (v_fieldAddr rfl Tryz.underlying202 rfl Tryz.sizeOf3 rfl (by first | exact Nat.zero_add _ | rfl)) ?_
              refine s_yes rfl rfl (s_val rfl (v_load Tryz.isAgg3 rfl (cell_own rfl)) ?_)
              refine s_yes rfl rfl (s_val rfl (v_gtr rfl rfl) (s_val rfl (v_pick_f rfl rfl) (x_nil (n_then ?_))))
              refine x_if rfl ?_ ?_
              · intro c7
                refine x_seq (x_region (s_val rfl (v_move rfl) (s_val rfl (v_assign rfl) (s_val rfl (v_assign rfl) (x_nil (n_then (x_ret (r_block (r_then (r_then (r_block (r_then (x_done (.inl rfl) (.cons (r_tmp rfl) (.cons (r_tmp rfl) .nil)) ?_)))))))))))))
                rw [hbad (by rw [hW]; first | (rw [decide_eq_false (by omega), Bool.and_false]; rfl) | (simp_all; done))]
                exact ⟨_, ⟨_, rfl, rfl⟩, inferInstance⟩
              · intro c7
                refine x_skip (n_block (n_then ?_))
                have hv1 : v = true := by first | assumption | simp_all
                rw [hv1, decide_eq_true (by omega)] at hW
                refine x_region (s_val rfl (v_move rfl) ?_)
                refine s_val rfl (v_add rfl rfl (by first | exact w64 (by omega) | rfl)) ?_
                refine s_val rfl (v_assign rfl) (x_nil (n_then ?_))
                refine inv_intro (i + 1) ?_ ?_ ?_ ?_
                · exact ⟨by omega, hgood hW⟩
                · omega
                · repeat (first | exact sub_nil | refine sub_cons rfl ?_)
                · exact inferInstance
        · intro c4
          refine x_exit (e_then (e_then (e_block (n_then (x_seq (x_region (s_val rfl (v_assign rfl) (s_val rfl (v_assign rfl) (x_nil (n_then (x_ret (x_done (.inl rfl) (.cons (r_tmp rfl) (.cons (r_tmp rfl) .nil)) ?_))))))))))))
          obtain rfl : i = c.sl.length := by omega
          rw [slW, decide_eq_false (by omega), Bool.false_or, anyW_no hI]
          exact ⟨_, ⟨0, rfl, rfl⟩, inferInstance⟩
theorem rcNeed_spec (W0 : World) (R : List HP) (c : Cfg) (hs : ∀ A, SlA (OwnP W0 A) c.ga 3 gsV c.gl) (hb : ∀ g ∈ c.gl, 1 ≤ g.2.1 ∧ g.2.1 ≤ 8 ∧ 0 ≤ g.2.2 ∧ g.2.2 ≤ 8 - g.2.1) (hn : c.nl.length ≤ 4) (hg : c.gl.length ≤ 4) :
    Spec Tryz.prog W0 189 [.agg (cfgV c).toArray] R (fun v B => v = .int .i64 (ndK c c.gl.length) ∧ B = R) := by
  have hle := ndK_le hb hn
  refine spec_body Tryz.func189 Tryz.ntmps189 rfl rfl ?_
  refine x_seq (x_region (s_do rfl (d_boxA rfl) ?_))
  rintro _ _ ⟨b1, rfl, rfl⟩
  refine s_val rfl (v_assign rfl) (x_nil (n_then (x_seq (x_region ?_))))
  refine s_val rfl (v_fieldAddr rfl Tryz.underlying28 rfl Tryz.sizeOf25 rfl (by first | exact Nat.zero_add _ | rfl)) ?_
  refine s_val rfl (v_load Tryz.isAgg25 rfl (cell_own rfl)) ?_
  refine s_val rfl (v_len_slice Tryz.underlying25 rfl) (s_val rfl (v_assign rfl) (x_nil (n_then (x_seq (x_seq (x_region (s_val rfl (v_assign rfl) (x_nil (n_then (x_block ?_))))))))))
  refine x_loop (fun i : Nat => i ≤ c.gl.length) (fun i => [(1, .pointer (some ⟨b1, 0, none⟩)), (3, .int .i64 (ndK c i)), (4, .int .i64 (i : Nat))]) (fun _ => pt b1 (cfO c) :: R) (fun i => c.gl.length - i) 0 ?_ ?_ ?_ ?_
  · exact Nat.zero_le _
  · repeat (first | exact sub_nil | refine sub_cons rfl ?_)
  · exact inferInstance
  · intro i hi
    refine x_seq (x_seq (x_region (s_val rfl (v_move rfl) ?_)))
    refine s_val rfl (v_fieldAddr rfl Tryz.underlying28 rfl Tryz.sizeOf22 rfl (by first | exact Nat.zero_add _ | rfl)) ?_
    refine s_val rfl (v_load Tryz.isAgg22 rfl (cell_own rfl)) ?_
    refine s_val rfl (v_len_slice Tryz.underlying22 rfl) (s_val rfl (v_lss rfl rfl) (x_nil (n_then ?_)))
    refine x_if rfl ?_ ?_
    · intro c3
      refine x_skip (n_then (x_seq (x_block ?_)))
      have hi1 : i < c.gl.length := by omega
      obtain ⟨g, o, hga, hc⟩ := (hs []).at_ hi1
      obtain ⟨x, hx⟩ : ∃ x, c.gl[i] = x := ⟨_, rfl⟩
      rw [hx] at hc
      have hbx := hb _ (List.getElem_mem hi1)
      rw [hx] at hbx
      have hst : ndK c (i + 1) = ndK c i + (x.2.1 + x.2.2) := by rw [ndK, show c.gl.getD i (0, 0, 0) = x by simp [List.getD, hi1, hx]]
      have hl1 := hle i hi
      refine x_draw [(b1, 0, cfgV c), (g, o + i * 3, gsV x)] 16 mixed rfl (sc_own (sc_cons hc.weak sc_end)) (fun hS => ?_)
      refine d_take 0 rfl rfl (by kernel_rfl) (by kernel_rfl) (by kernel_rfl) rfl hS (v_move rfl) ?_
      refine d_take 1 rfl rfl (by kernel_rfl) (by kernel_rfl) (by kernel_rfl) rfl hS (v_fieldAddr rfl Tryz.underlying28 rfl Tryz.sizeOf22 rfl (by first | exact Nat.zero_add _ | rfl)) ?_
      refine d_take 2 rfl rfl (by kernel_rfl) (by kernel_rfl) (by kernel_rfl) rfl hS (v_load Tryz.isAgg22 rfl (by first | exact cell_sc0 (k := 0) rfl rfl | exact cell_sc0 (k := 1) rfl rfl)) ?_
      refine d_take 3 rfl rfl (by kernel_rfl) (by kernel_rfl) (by kernel_rfl) rfl hS (v_move rfl) ?_
      refine d_take 4 rfl rfl (by kernel_rfl) (by kernel_rfl) (by kernel_rfl) rfl hS (v_idxA Tryz.underlying22 Tryz.sizeOf95 rfl hga rfl rfl hi1 (by first | exact Nat.zero_add _ | rfl)) ?_
      refine d_take 5 rfl rfl (by kernel_rfl) (by kernel_rfl) (by kernel_rfl) rfl hS (v_fieldAddr rfl Tryz.underlying95 rfl Tryz.sizeOf3 rfl (by first | exact Nat.zero_add _ | rfl)) ?_
      refine d_take 6 rfl rfl (by kernel_rfl) (by kernel_rfl) (by kernel_rfl) rfl hS (v_load Tryz.isAgg3 rfl (cell_sc (k := 1) (j := 1) rfl rfl)) ?_
      refine d_take 7 rfl rfl (by kernel_rfl) (by kernel_rfl) (by kernel_rfl) rfl hS (v_add rfl rfl (w64 (by omega))) ?_
      refine d_take 8 rfl rfl (by kernel_rfl) (by kernel_rfl) (by kernel_rfl) rfl hS (v_fieldAddr rfl Tryz.underlying28 rfl Tryz.sizeOf22 rfl (by first | exact Nat.zero_add _ | rfl)) ?_
      refine d_take 9 rfl rfl (by kernel_rfl) (by kernel_rfl) (by kernel_rfl) rfl hS (v_load Tryz.isAgg22 rfl (by first | exact cell_sc0 (k := 0) rfl rfl | exact cell_sc0 (k := 1) rfl rfl)) ?_
      refine d_take 10 rfl rfl (by kernel_rfl) (by kernel_rfl) (by kernel_rfl) rfl hS (v_move rfl) ?_
      refine d_take 11 rfl rfl (by kernel_rfl) (by kernel_rfl) (by kernel_rfl) rfl hS (v_idxA Tryz.underlying22 Tryz.sizeOf95 rfl hga rfl rfl hi1 (by first | exact Nat.zero_add _ | rfl)) ?_
      refine d_take 12 rfl rfl (by kernel_rfl) (by kernel_rfl) (by kernel_rfl) rfl hS (v_fieldAddr rfl Tryz.underlying95 rfl Tryz.sizeOf3 rfl (by first | exact Nat.zero_add _ | rfl)) ?_
      refine d_take 13 rfl rfl (by kernel_rfl) (by kernel_rfl) (by kernel_rfl) rfl hS (v_load Tryz.isAgg3 rfl (cell_sc (k := 1) (j := 2) rfl rfl)) ?_
      refine d_take 14 rfl rfl (by kernel_rfl) (by kernel_rfl) (by kernel_rfl) rfl hS (v_add rfl rfl (by rw [w64 (by omega), hst]; omega : IntKind.wrap .i64 (ndK c i + x.2.1 + x.2.2) = ndK c (i + 1))) ?_
      refine d_take 15 rfl rfl (by kernel_rfl) (by kernel_rfl) (by kernel_rfl) rfl hS (v_assign rfl) ?_
      refine d_done (by kernel_rfl) ?_; clear hS
      refine n_block (n_then (x_region (s_val rfl (v_move rfl) ?_)))
      refine s_val rfl (v_add rfl rfl (by first | exact w64 (by omega) | rfl)) ?_
      refine s_val rfl (v_assign rfl) (x_nil (n_then ?_))
      refine inv_intro (i + 1) ?_ ?_ ?_ ?_
      · omega
      · omega
      · repeat (first | exact sub_nil | refine sub_cons rfl ?_)
      · exact inferInstance
    · intro c3
      refine x_exit (e_then (e_then (e_block (n_then (x_seq (x_region (s_val rfl (v_move rfl) (s_val rfl (v_assign rfl) (x_nil (n_then (x_ret (x_done (.inl rfl) (.cons (r_tmp rfl) .nil) ?_))))))))))))
      obtain rfl : i = c.gl.length := by omega
      exact ⟨_, ⟨rfl, rfl⟩, inferInstance⟩
theorem gst_row {W0 : World} {c : Cfg} (h : CfOk W0 c) (q : Int) : ∃ (gg og j : Nat) (vs : List Value), (∀ A, Cells (OwnP W0 A) gg (og + j * 3) vs) ∧ (isG c q = true → c.ga = some ⟨gg, og, none⟩ ∧ q = (j : Int) ∧ j < c.gl.length ∧ ∃ u : Int × Int × Int, vs = gsV u ∧ labG c q = u.1) := by
  cases hG : isG c q with
  | false => exact ⟨0, 0, 0, [], fun A k v hk => by simp at hk, fun h => by cases h⟩
  | true =>
    have hb : 0 ≤ q ∧ q < c.gl.length := of_decide_eq_true hG
    obtain ⟨j, rfl⟩ : ∃ j : Nat, q = (j : Int) := ⟨q.toNat, by omega⟩
    have hj : j < c.gl.length := by omega
    obtain ⟨gg, og, hga, _⟩ := (h.g []).at_ hj
    refine ⟨gg, og, j, gsV c.gl[j], fun A => ?_, fun _ => ⟨hga, rfl, hj, c.gl[j], rfl, ?_⟩⟩
    · obtain ⟨g2, o2, h2, hc2⟩ := (h.g A).at_ hj
      rw [hga] at h2; cases h2; exact hc2
    · rw [labG, Int.toNat_natCast]; simp [List.getD, hj]
theorem isG_lt {c : Cfg} {q : Int} (h : isG c q = true) : 0 ≤ q ∧ q < c.gl.length := of_decide_eq_true h
theorem isG_no {c : Cfg} {q : Int} (h : isG c q = false) : ¬ (0 ≤ q ∧ q < c.gl.length) := of_decide_eq_false h
theorem rcRings_spec (W0 : World) (R : List HP) (c : Cfg) (h : CfOk W0 c) :
    Spec Tryz.prog W0 186 [.agg (cfgV c).toArray] R (fun v B => ∃ r, v = .tuple #[.bool (riW c), .int .i64 r] ∧ B = R) := by
  refine spec_body Tryz.func186 Tryz.ntmps186 rfl rfl ?_
  refine x_seq (x_region (s_do rfl (d_boxA rfl) ?_))
  rintro _ _ ⟨b1, rfl, rfl⟩
  refine s_val rfl (v_assign rfl) (s_val rfl (v_assign rfl) (x_nil (n_then (x_seq (x_seq (x_region ?_))))))
  refine s_val rfl (v_fieldAddr rfl Tryz.underlying28 rfl Tryz.sizeOf25 rfl (by first | exact Nat.zero_add _ | rfl)) ?_
  refine s_val rfl (v_load Tryz.isAgg25 rfl (cell_own rfl)) ?_
  refine s_val rfl (v_len_slice Tryz.underlying25 rfl) (s_val rfl (v_gtr rfl rfl) (x_nil (n_then ?_)))
  refine x_if rfl ?_ ?_
  · intro c1
    refine x_seq (x_region (s_val rfl (v_assign rfl) (s_val rfl (v_assign rfl) (x_nil (n_then (x_ret (r_then (x_done (.inl rfl) (.cons (r_tmp rfl) (.cons (r_tmp rfl) .nil)) ?_))))))))
    rw [riW, decide_eq_true (by omega), Bool.true_or]
    exact ⟨_, ⟨0, rfl, rfl⟩, inferInstance⟩
  · intro c1
    refine x_skip (n_then (x_seq (x_seq (x_region (s_val rfl (v_assign rfl) (x_nil (n_then (x_block ?_))))))))
    refine x_loop (fun i : Nat => i ≤ c.nl.length ∧ (∀ j, j < i → rngW c (c.nl.getD j (0, 0)) = false)) (fun i => [(1, .pointer (some ⟨b1, 0, none⟩)), (4, .int .i64 i)]) (fun _ => pt b1 (cfO c) :: R) (fun i => c.nl.length - i) 0 ?_ ?_ ?_ ?_
    · exact ⟨Nat.zero_le _, fun j hj => absurd hj (Nat.not_lt_zero _)⟩
    · repeat (first | exact sub_nil | refine sub_cons rfl ?_)
    · exact inferInstance
    · intro i ⟨hi, hI⟩
      refine x_seq (x_seq (x_region (s_val rfl (v_move rfl) ?_)))
      refine s_val rfl (v_fieldAddr rfl Tryz.underlying28 rfl Tryz.sizeOf25 rfl (by first | exact Nat.zero_add _ | rfl)) ?_
      refine s_val rfl (v_load Tryz.isAgg25 rfl (cell_own rfl)) ?_
      refine s_val rfl (v_len_slice Tryz.underlying25 rfl) (s_val rfl (v_lss rfl rfl) (x_nil (n_then ?_)))
      refine x_if rfl ?_ ?_
      · intro c4
        refine x_skip (n_then (x_seq (x_block (x_seq ?_))))
        have hi1 : i < c.nl.length := by omega
        obtain ⟨g, o, hga, hc⟩ := (h.n []).at_ hi1
        obtain ⟨⟨p, q⟩, hx⟩ : ∃ x, c.nl[i] = x := ⟨_, rfl⟩
        have hgd : c.nl.getD i (0, 0) = (p, q) := by simp [List.getD, hi1, hx]
        rw [hx] at hc
        have hbad : rngW c (p, q) = true → riW c = true := fun z => by
          rw [riW, anyW_yes (w := fun i => rngW c (c.nl.getD i (0, 0))) hi1 (by rw [hgd]; exact z), Bool.or_true]
        have hgood := fun z => any_next (w := fun i => rngW c (c.nl.getD i (0, 0))) hI (show rngW c (c.nl.getD i (0, 0)) = false by rw [hgd]; exact z)
        obtain ⟨g1, o1, j1, vs1, hcv1, hr1⟩ := gst_row h p
        obtain ⟨g2, o2, j2, vs2, hcv2, hr2⟩ := gst_row h q
        obtain ⟨w1, hw1⟩ : ∃ w, isG c p = w := ⟨_, rfl⟩
        obtain ⟨w2, hw2⟩ : ∃ w, isG c q = w := ⟨_, rfl⟩
        have hW : rngW c (p, q) = !(w1 && w2 && decide (p ≠ q) && flB (labG c p) (labG c q)) := by rw [rngW, hw1, hw2]
        rw [hw1] at hr1
        rw [hw2] at hr2
        refine x_region ?_
        refine s_val rfl (v_fieldAddr rfl Tryz.underlying28 rfl Tryz.sizeOf25 rfl (by first | exact Nat.zero_add _ | rfl)) ?_
        refine s_val rfl (v_load Tryz.isAgg25 rfl (cell_own rfl)) ?_
        refine s_val rfl (v_move rfl) ?_
        refine s_val rfl (v_idxA Tryz.underlying25 Tryz.sizeOf320 rfl hga rfl rfl hi1 (by first | exact Nat.zero_add _ | rfl)) ?_
        refine s_val rfl (v_loadAgg Tryz.isAgg320 Tryz.sizeOf320 rfl hc.weak rfl) ?_
        refine s_do rfl (d_allocA Tryz.zeroValue320) ?_
        rintro _ _ ⟨bx, rfl, rfl⟩
        refine s_do0 (d_storeAll Tryz.sizeOf320 rfl rfl rfl rfl rfl) ?_
        rintro _ _ rfl
        refine x_nil (n_then (x_seq ?_))
        refine x_draw [(b1, 0, cfgV c), (bx, 0, pairV (p, q)), (g1, o1 + j1 * 3, vs1), (g2, o2 + j2 * 3, vs2)] 37 mixed rfl (sc_own (sc_own (sc_cons (hcv1 _) (sc_cons (hcv2 _) sc_end)))) (fun hS => ?_)
        refine d_take 0 rfl rfl (by kernel_rfl) (by kernel_rfl) (by kernel_rfl) rfl hS (v_loadAgg Tryz.isAgg28 Tryz.sizeOf28 rfl (by first | exact cells_sc (k := 0) rfl | exact cells_sc (k := 1) rfl | exact cells_sc (k := 2) rfl | exact cells_sc (k := 3) rfl | exact cells_sc (k := 4) rfl) rfl) ?_
        refine d_take 1 rfl rfl (by kernel_rfl) (by kernel_rfl) (by kernel_rfl) rfl hS (v_fieldAddr rfl Tryz.underlying320 rfl Tryz.sizeOf3 rfl (by first | exact Nat.zero_add _ | rfl)) ?_
        refine d_take 2 rfl rfl (by kernel_rfl) (by kernel_rfl) (by kernel_rfl) rfl hS (v_load Tryz.isAgg3 rfl (by first | exact cell_sc0 (k := 0) rfl rfl | exact cell_sc0 (k := 1) rfl rfl | exact cell_sc0 (k := 2) rfl rfl | exact cell_sc0 (k := 3) rfl rfl | exact cell_sc0 (k := 4) rfl rfl)) ?_
        refine d_one 3 (by kernel_rfl) rfl rfl (d_call Tryz.call188 rfl (rcIsG_spec W0 _ c p)) rfl ?_; clear hS
        rintro _ B_ ⟨rfl, hB_⟩
        obtain rfl := hB_.symm
        rw [hw1]
        refine ⟨(sc_own (sc_own (sc_cons (hcv1 _) (sc_cons (hcv2 _) sc_end)))), fun hS => ?_⟩
        refine d_take 4 rfl rfl (by kernel_rfl) (by kernel_rfl) (by kernel_rfl) rfl hS (v_not rfl) ?_
        refine d_take 5 rfl rfl (by kernel_rfl) (by kernel_rfl) (by kernel_rfl) rfl hS (v_move rfl) ?_
        refine x_split (t := 27) rfl ?_ ?_
        · intro g7_6
          refine d_skip 6 rfl rfl (by kernel_rfl) (by kernel_rfl) (by kernel_rfl) rfl hS ?_
          refine d_skip 7 rfl rfl (by kernel_rfl) (by kernel_rfl) (by kernel_rfl) rfl hS ?_
          refine d_skip 8 rfl rfl (by kernel_rfl) (by kernel_rfl) (by kernel_rfl) rfl hS ?_
          refine d_skip 9 rfl rfl (by kernel_rfl) (by kernel_rfl) (by kernel_rfl) rfl hS ?_
          refine d_skip 10 rfl rfl (by kernel_rfl) (by kernel_rfl) (by kernel_rfl) rfl hS ?_
          refine d_take 11 rfl rfl (by kernel_rfl) (by kernel_rfl) (by kernel_rfl) rfl hS (v_pick_t rfl rfl) ?_
          refine d_take 12 rfl rfl (by kernel_rfl) (by kernel_rfl) (by kernel_rfl) rfl hS (v_move rfl) ?_
          refine d_skip 13 rfl rfl (by kernel_rfl) (by kernel_rfl) (by kernel_rfl) rfl hS ?_
          refine d_skip 14 rfl rfl (by kernel_rfl) (by kernel_rfl) (by kernel_rfl) rfl hS ?_
          refine d_skip 15 rfl rfl (by kernel_rfl) (by kernel_rfl) (by kernel_rfl) rfl hS ?_
          refine d_skip 16 rfl rfl (by kernel_rfl) (by kernel_rfl) (by kernel_rfl) rfl hS ?_
          refine d_skip 17 rfl rfl (by kernel_rfl) (by kernel_rfl) (by kernel_rfl) rfl hS ?_
          refine d_take 18 rfl rfl (by kernel_rfl) (by kernel_rfl) (by kernel_rfl) rfl hS (v_pick_t rfl rfl) ?_
          refine d_take 19 rfl rfl (by kernel_rfl) (by kernel_rfl) (by kernel_rfl) rfl hS (v_move rfl) ?_
          refine d_skip 20 rfl rfl (by kernel_rfl) (by kernel_rfl) (by kernel_rfl) rfl hS ?_
          refine d_skip 21 rfl rfl (by kernel_rfl) (by kernel_rfl) (by kernel_rfl) rfl hS ?_
          refine d_skip 22 rfl rfl (by kernel_rfl) (by kernel_rfl) (by kernel_rfl) rfl hS ?_
          refine d_skip 23 rfl rfl (by kernel_rfl) (by kernel_rfl) (by kernel_rfl) rfl hS ?_
          refine d_skip 24 rfl rfl (by kernel_rfl) (by kernel_rfl) (by kernel_rfl) rfl hS ?_
          refine d_skip 25 rfl rfl (by kernel_rfl) (by kernel_rfl) (by kernel_rfl) rfl hS ?_
          refine d_skip 26 rfl rfl (by kernel_rfl) (by kernel_rfl) (by kernel_rfl) rfl hS ?_
          refine d_skip 27 rfl rfl (by kernel_rfl) (by kernel_rfl) (by kernel_rfl) rfl hS ?_
          refine d_skip 28 rfl rfl (by kernel_rfl) (by kernel_rfl) (by kernel_rfl) rfl hS ?_
          refine d_skip 29 rfl rfl (by kernel_rfl) (by kernel_rfl) (by kernel_rfl) rfl hS ?_
          refine d_skip 30 rfl rfl (by kernel_rfl) (by kernel_rfl) (by kernel_rfl) rfl hS ?_
          refine d_skip 31 rfl rfl (by kernel_rfl) (by kernel_rfl) (by kernel_rfl) rfl hS ?_
          refine d_skip 32 rfl rfl (by kernel_rfl) (by kernel_rfl) (by kernel_rfl) rfl hS ?_
          refine d_skip 33 rfl rfl (by kernel_rfl) (by kernel_rfl) (by kernel_rfl) rfl hS ?_
          refine d_skip 34 rfl rfl (by kernel_rfl) (by kernel_rfl) (by kernel_rfl) rfl hS ?_
          refine d_skip 35 rfl rfl (by kernel_rfl) (by kernel_rfl) (by kernel_rfl) rfl hS ?_
          refine d_take 36 rfl rfl (by kernel_rfl) (by kernel_rfl) (by kernel_rfl) rfl hS (v_pick_t rfl rfl) ?_
          refine d_done (by kernel_rfl) ?_; clear hS
          refine n_then (x_ift rfl (x_seq (x_region (s_val rfl (v_move rfl) (s_val rfl (v_assign rfl) (s_val rfl (v_assign rfl) (x_nil (n_then (x_ret (r_block (r_then (r_then (r_block (r_then (x_done (.inl rfl) (.cons (r_tmp rfl) (.cons (r_tmp rfl) .nil)) ?_)))))))))))))))
          rw [hbad (by rw [hW]; first | (simp_all; done) | (rw [decide_eq_false (by omega)]; simp))]
          exact ⟨_, ⟨_, rfl, rfl⟩, inferInstance⟩
        · intro g7_6
          refine d_take 6 rfl rfl (by kernel_rfl) (by kernel_rfl) (by kernel_rfl) rfl hS (v_loadAgg Tryz.isAgg28 Tryz.sizeOf28 rfl (by first | exact cells_sc (k := 0) rfl | exact cells_sc (k := 1) rfl | exact cells_sc (k := 2) rfl | exact cells_sc (k := 3) rfl | exact cells_sc (k := 4) rfl) rfl) ?_
          refine d_take 7 rfl rfl (by kernel_rfl) (by kernel_rfl) (by kernel_rfl) rfl hS (v_fieldAddr rfl Tryz.underlying320 rfl Tryz.sizeOf3 rfl (by first | exact Nat.zero_add _ | rfl)) ?_
          refine d_take 8 rfl rfl (by kernel_rfl) (by kernel_rfl) (by kernel_rfl) rfl hS (v_load Tryz.isAgg3 rfl (by first | exact cell_sc0 (k := 0) rfl rfl | exact cell_sc0 (k := 1) rfl rfl | exact cell_sc0 (k := 2) rfl rfl | exact cell_sc0 (k := 3) rfl rfl | exact cell_sc0 (k := 4) rfl rfl)) ?_
          refine d_one 9 (by kernel_rfl) rfl rfl (d_call Tryz.call188 rfl (rcIsG_spec W0 _ c q)) rfl ?_; clear hS
          rintro _ B_ ⟨rfl, hB_⟩
          obtain rfl := hB_.symm
          rw [hw2]
          refine ⟨(sc_own (sc_own (sc_cons (hcv1 _) (sc_cons (hcv2 _) sc_end)))), fun hS => ?_⟩
          refine d_take 10 rfl rfl (by kernel_rfl) (by kernel_rfl) (by kernel_rfl) rfl hS (v_not rfl) ?_
          refine d_take 11 rfl rfl (by kernel_rfl) (by kernel_rfl) (by kernel_rfl) rfl hS (v_pick_f rfl rfl) ?_
          refine d_take 12 rfl rfl (by kernel_rfl) (by kernel_rfl) (by kernel_rfl) rfl hS (v_move rfl) ?_
          refine x_split (t := 34) rfl ?_ ?_
          · intro g7_13
            refine d_skip 13 rfl rfl (by kernel_rfl) (by kernel_rfl) (by kernel_rfl) rfl hS ?_
            refine d_skip 14 rfl rfl (by kernel_rfl) (by kernel_rfl) (by kernel_rfl) rfl hS ?_
            refine d_skip 15 rfl rfl (by kernel_rfl) (by kernel_rfl) (by kernel_rfl) rfl hS ?_
            refine d_skip 16 rfl rfl (by kernel_rfl) (by kernel_rfl) (by kernel_rfl) rfl hS ?_
            refine d_skip 17 rfl rfl (by kernel_rfl) (by kernel_rfl) (by kernel_rfl) rfl hS ?_
            refine d_take 18 rfl rfl (by kernel_rfl) (by kernel_rfl) (by kernel_rfl) rfl hS (v_pick_t rfl rfl) ?_
            refine d_take 19 rfl rfl (by kernel_rfl) (by kernel_rfl) (by kernel_rfl) rfl hS (v_move rfl) ?_
            refine d_skip 20 rfl rfl (by kernel_rfl) (by kernel_rfl) (by kernel_rfl) rfl hS ?_
            refine d_skip 21 rfl rfl (by kernel_rfl) (by kernel_rfl) (by kernel_rfl) rfl hS ?_
            refine d_skip 22 rfl rfl (by kernel_rfl) (by kernel_rfl) (by kernel_rfl) rfl hS ?_
            refine d_skip 23 rfl rfl (by kernel_rfl) (by kernel_rfl) (by kernel_rfl) rfl hS ?_
            refine d_skip 24 rfl rfl (by kernel_rfl) (by kernel_rfl) (by kernel_rfl) rfl hS ?_
            refine d_skip 25 rfl rfl (by kernel_rfl) (by kernel_rfl) (by kernel_rfl) rfl hS ?_
            refine d_skip 26 rfl rfl (by kernel_rfl) (by kernel_rfl) (by kernel_rfl) rfl hS ?_
            refine d_skip 27 rfl rfl (by kernel_rfl) (by kernel_rfl) (by kernel_rfl) rfl hS ?_
            refine d_skip 28 rfl rfl (by kernel_rfl) (by kernel_rfl) (by kernel_rfl) rfl hS ?_
            refine d_skip 29 rfl rfl (by kernel_rfl) (by kernel_rfl) (by kernel_rfl) rfl hS ?_
            refine d_skip 30 rfl rfl (by kernel_rfl) (by kernel_rfl) (by kernel_rfl) rfl hS ?_
            refine d_skip 31 rfl rfl (by kernel_rfl) (by kernel_rfl) (by kernel_rfl) rfl hS ?_
            refine d_skip 32 rfl rfl (by kernel_rfl) (by kernel_rfl) (by kernel_rfl) rfl hS ?_
            refine d_skip 33 rfl rfl (by kernel_rfl) (by kernel_rfl) (by kernel_rfl) rfl hS ?_
            refine d_skip 34 rfl rfl (by kernel_rfl) (by kernel_rfl) (by kernel_rfl) rfl hS ?_
            refine d_skip 35 rfl rfl (by kernel_rfl) (by kernel_rfl) (by kernel_rfl) rfl hS ?_
            refine d_take 36 rfl rfl (by kernel_rfl) (by kernel_rfl) (by kernel_rfl) rfl hS (v_pick_t rfl rfl) ?_
            refine d_done (by kernel_rfl) ?_; clear hS
            refine n_then (x_ift rfl (x_seq (x_region (s_val rfl (v_move rfl) (s_val rfl (v_assign rfl) (s_val rfl (v_assign rfl) (x_nil (n_then (x_ret (r_block (r_then (r_then (r_block (r_then (x_done (.inl rfl) (.cons (r_tmp rfl) (.cons (r_tmp rfl) .nil)) ?_)))))))))))))))
            rw [hbad (by rw [hW]; first | (simp_all; done) | (rw [decide_eq_false (by omega)]; simp))]
            exact ⟨_, ⟨_, rfl, rfl⟩, inferInstance⟩
          · intro g7_13
            refine d_take 13 rfl rfl (by kernel_rfl) (by kernel_rfl) (by kernel_rfl) rfl hS (v_fieldAddr rfl Tryz.underlying320 rfl Tryz.sizeOf3 rfl (by first | exact Nat.zero_add _ | rfl)) ?_
            refine d_take 14 rfl rfl (by kernel_rfl) (by kernel_rfl) (by kernel_rfl) rfl hS (v_load Tryz.isAgg3 rfl (by first | exact cell_sc0 (k := 0) rfl rfl | exact cell_sc0 (k := 1) rfl rfl | exact cell_sc0 (k := 2) rfl rfl | exact cell_sc0 (k := 3) rfl rfl | exact cell_sc0 (k := 4) rfl rfl)) ?_
            refine d_take 15 rfl rfl (by kernel_rfl) (by kernel_rfl) (by kernel_rfl) rfl hS (v_fieldAddr rfl Tryz.underlying320 rfl Tryz.sizeOf3 rfl (by first | exact Nat.zero_add _ | rfl)) ?_
            refine d_take 16 rfl rfl (by kernel_rfl) (by kernel_rfl) (by kernel_rfl) rfl hS (v_load Tryz.isAgg3 rfl (by first | exact cell_sc0 (k := 0) rfl rfl | exact cell_sc0 (k := 1) rfl rfl | exact cell_sc0 (k := 2) rfl rfl | exact cell_sc0 (k := 3) rfl rfl | exact cell_sc0 (k := 4) rfl rfl)) ?_
            refine d_take 17 rfl rfl (by kernel_rfl) (by kernel_rfl) (by kernel_rfl) rfl hS (v_eql rfl rfl) ?_
            refine d_take 18 rfl rfl (by kernel_rfl) (by kernel_rfl) (by kernel_rfl) rfl hS (v_pick_f rfl rfl) ?_
            refine d_take 19 rfl rfl (by kernel_rfl) (by kernel_rfl) (by kernel_rfl) rfl hS (v_move rfl) ?_
            refine x_split (t := 41) rfl ?_ ?_
            · intro g7_20
              refine d_skip 20 rfl rfl (by kernel_rfl) (by kernel_rfl) (by kernel_rfl) rfl hS ?_
              refine d_skip 21 rfl rfl (by kernel_rfl) (by kernel_rfl) (by kernel_rfl) rfl hS ?_
              refine d_skip 22 rfl rfl (by kernel_rfl) (by kernel_rfl) (by kernel_rfl) rfl hS ?_
              refine d_skip 23 rfl rfl (by kernel_rfl) (by kernel_rfl) (by kernel_rfl) rfl hS ?_
              refine d_skip 24 rfl rfl (by kernel_rfl) (by kernel_rfl) (by kernel_rfl) rfl hS ?_
              refine d_skip 25 rfl rfl (by kernel_rfl) (by kernel_rfl) (by kernel_rfl) rfl hS ?_
              refine d_skip 26 rfl rfl (by kernel_rfl) (by kernel_rfl) (by kernel_rfl) rfl hS ?_
              refine d_skip 27 rfl rfl (by kernel_rfl) (by kernel_rfl) (by kernel_rfl) rfl hS ?_
              refine d_skip 28 rfl rfl (by kernel_rfl) (by kernel_rfl) (by kernel_rfl) rfl hS ?_
              refine d_skip 29 rfl rfl (by kernel_rfl) (by kernel_rfl) (by kernel_rfl) rfl hS ?_
              refine d_skip 30 rfl rfl (by kernel_rfl) (by kernel_rfl) (by kernel_rfl) rfl hS ?_
              refine d_skip 31 rfl rfl (by kernel_rfl) (by kernel_rfl) (by kernel_rfl) rfl hS ?_
              refine d_skip 32 rfl rfl (by kernel_rfl) (by kernel_rfl) (by kernel_rfl) rfl hS ?_
              refine d_skip 33 rfl rfl (by kernel_rfl) (by kernel_rfl) (by kernel_rfl) rfl hS ?_
              refine d_skip 34 rfl rfl (by kernel_rfl) (by kernel_rfl) (by kernel_rfl) rfl hS ?_
              refine d_skip 35 rfl rfl (by kernel_rfl) (by kernel_rfl) (by kernel_rfl) rfl hS ?_
              refine d_take 36 rfl rfl (by kernel_rfl) (by kernel_rfl) (by kernel_rfl) rfl hS (v_pick_t rfl rfl) ?_
              refine d_done (by kernel_rfl) ?_; clear hS
              refine n_then (x_ift rfl (x_seq (x_region (s_val rfl (v_move rfl) (s_val rfl (v_assign rfl) (s_val rfl (v_assign rfl) (x_nil (n_then (x_ret (r_block (r_then (r_then (r_block (r_then (x_done (.inl rfl) (.cons (r_tmp rfl) (.cons (r_tmp rfl) .nil)) ?_)))))))))))))))
              rw [hbad (by rw [hW]; first | (simp_all; done) | (rw [decide_eq_false (by omega)]; simp))]
              exact ⟨_, ⟨_, rfl, rfl⟩, inferInstance⟩
            · intro g7_20
              obtain rfl : w1 = true := by first | assumption | simp_all
              obtain rfl : w2 = true := by first | assumption | simp_all
              obtain ⟨ha1, hq1, hj1, u1, rfl, hl1⟩ := hr1 rfl
              obtain ⟨ha2, hq2, hj2, u2, rfl, hl2⟩ := hr2 rfl
              rw [hl1, hl2] at hW
              refine d_take 20 rfl rfl (by kernel_rfl) (by kernel_rfl) (by kernel_rfl) rfl hS (v_fieldAddr rfl Tryz.underlying28 rfl Tryz.sizeOf22 rfl (by first | exact Nat.zero_add _ | rfl)) ?_
              refine d_take 21 rfl rfl (by kernel_rfl) (by kernel_rfl) (by kernel_rfl) rfl hS (v_load Tryz.isAgg22 rfl (by first | exact cell_sc0 (k := 0) rfl rfl | exact cell_sc0 (k := 1) rfl rfl | exact cell_sc0 (k := 2) rfl rfl | exact cell_sc0 (k := 3) rfl rfl | exact cell_sc0 (k := 4) rfl rfl)) ?_
              refine d_take 22 rfl rfl (by kernel_rfl) (by kernel_rfl) (by kernel_rfl) rfl hS (v_fieldAddr rfl Tryz.underlying320 rfl Tryz.sizeOf3 rfl (by first | exact Nat.zero_add _ | rfl)) ?_
              refine d_take 23 rfl rfl (by kernel_rfl) (by kernel_rfl) (by kernel_rfl) rfl hS (v_load Tryz.isAgg3 rfl (by first | exact cell_sc0 (k := 0) rfl rfl | exact cell_sc0 (k := 1) rfl rfl | exact cell_sc0 (k := 2) rfl rfl | exact cell_sc0 (k := 3) rfl rfl | exact cell_sc0 (k := 4) rfl rfl)) ?_
              refine d_take 24 rfl rfl (by kernel_rfl) (by kernel_rfl) (by kernel_rfl) rfl hS (v_idxA Tryz.underlying22 Tryz.sizeOf95 rfl ha1 rfl hq1 hj1 (by first | exact Nat.zero_add _ | rfl)) ?_
              refine d_take 25 rfl rfl (by kernel_rfl) (by kernel_rfl) (by kernel_rfl) rfl hS (v_fieldAddr rfl Tryz.underlying95 rfl Tryz.sizeOf3 rfl (by first | exact Nat.zero_add _ | rfl)) ?_
              refine d_take 26 rfl rfl (by kernel_rfl) (by kernel_rfl) (by kernel_rfl) rfl hS (v_load Tryz.isAgg3 rfl (cell_sc (k := 2) (j := 0) rfl rfl)) ?_
              refine d_take 27 rfl rfl (by kernel_rfl) (by kernel_rfl) (by kernel_rfl) rfl hS (v_fieldAddr rfl Tryz.underlying28 rfl Tryz.sizeOf22 rfl (by first | exact Nat.zero_add _ | rfl)) ?_
              refine d_take 28 rfl rfl (by kernel_rfl) (by kernel_rfl) (by kernel_rfl) rfl hS (v_load Tryz.isAgg22 rfl (by first | exact cell_sc0 (k := 0) rfl rfl | exact cell_sc0 (k := 1) rfl rfl | exact cell_sc0 (k := 2) rfl rfl | exact cell_sc0 (k := 3) rfl rfl | exact cell_sc0 (k := 4) rfl rfl)) ?_
              refine d_take 29 rfl rfl (by kernel_rfl) (by kernel_rfl) (by kernel_rfl) rfl hS (v_fieldAddr rfl Tryz.underlying320 rfl Tryz.sizeOf3 rfl (by first | exact Nat.zero_add _ | rfl)) ?_
              refine d_take 30 rfl rfl (by kernel_rfl) (by kernel_rfl) (by kernel_rfl) rfl hS (v_load Tryz.isAgg3 rfl (by first | exact cell_sc0 (k := 0) rfl rfl | exact cell_sc0 (k := 1) rfl rfl | exact cell_sc0 (k := 2) rfl rfl | exact cell_sc0 (k := 3) rfl rfl | exact cell_sc0 (k := 4) rfl rfl)) ?_
              refine d_take 31 rfl rfl (by kernel_rfl) (by kernel_rfl) (by kernel_rfl) rfl hS (v_idxA Tryz.underlying22 Tryz.sizeOf95 rfl ha2 rfl hq2 hj2 (by first | exact Nat.zero_add _ | rfl)) ?_
              refine d_take 32 rfl rfl (by kernel_rfl) (by kernel_rfl) (by kernel_rfl) rfl hS (v_fieldAddr rfl Tryz.underlying95 rfl Tryz.sizeOf3 rfl (by first | exact Nat.zero_add _ | rfl)) ?_
              refine d_take 33 rfl rfl (by kernel_rfl) (by kernel_rfl) (by kernel_rfl) rfl hS (v_load Tryz.isAgg3 rfl (cell_sc (k := 3) (j := 0) rfl rfl)) ?_
              refine d_one 34 (by kernel_rfl) rfl rfl (d_call Tryz.call41 rfl (rlFlows_spec W0 _ u1.1 u2.1)) rfl ?_; clear hS
              rintro _ B_ ⟨rfl, hB_⟩
              obtain rfl := hB_.symm
              refine ⟨(sc_own (sc_own (sc_cons (hcv1 _) (sc_cons (hcv2 _) sc_end)))), fun hS => ?_⟩
              refine d_take 35 rfl rfl (by kernel_rfl) (by kernel_rfl) (by kernel_rfl) rfl hS (v_not rfl) ?_
              refine d_take 36 rfl rfl (by kernel_rfl) (by kernel_rfl) (by kernel_rfl) rfl hS (v_pick_f rfl rfl) ?_
              refine d_done (by kernel_rfl) ?_; clear hS
              refine n_then ?_
              refine x_if rfl ?_ ?_
              · intro c7
                refine x_seq (x_region (s_val rfl (v_move rfl) (s_val rfl (v_assign rfl) (s_val rfl (v_assign rfl) (x_nil (n_then (x_ret (r_block (r_then (r_then (r_block (r_then (x_done (.inl rfl) (.cons (r_tmp rfl) (.cons (r_tmp rfl) .nil)) ?_)))))))))))))
                rw [hbad (by rw [hW]; first | (simp_all; done) | (rw [decide_eq_false (by omega)]; simp))]
                exact ⟨_, ⟨_, rfl, rfl⟩, inferInstance⟩
              · intro c7
                refine x_skip (n_block (n_then (x_region (s_val rfl (v_move rfl) ?_))))
                refine s_val rfl (v_add rfl rfl (by first | exact w64 (by omega) | rfl)) ?_
                refine s_val rfl (v_assign rfl) (x_nil (n_then ?_))
                refine inv_intro (i + 1) ?_ ?_ ?_ ?_
                · refine ⟨by omega, hgood ?_⟩
                  rw [hW, decide_eq_true (by omega)]; simp_all
                · omega
                · repeat (first | exact sub_nil | refine sub_cons rfl ?_)
                · exact inferInstance
      · intro c4
        refine x_exit (e_then (e_then (e_block (n_then (x_seq (x_region (s_val rfl (v_assign rfl) (s_val rfl (v_assign rfl) (x_nil (n_then (x_ret (x_done (.inl rfl) (.cons (r_tmp rfl) (.cons (r_tmp rfl) .nil)) ?_))))))))))))
        obtain rfl : i = c.nl.length := by omega
        rw [riW, decide_eq_false (by omega), Bool.false_or, anyW_no hI]
        exact ⟨_, ⟨0, rfl, rfl⟩, inferInstance⟩
end Go.Proofs.YtncegikenkpcmaaGreat
namespace Go.Proofs.YtncegikenkpcmaaGreat
open Go.RowKit
set_option linter.unusedSimpArgs false
set_option linter.unusedVariables false
set_option maxRecDepth 20000
theorem tkn_yes {c : Cfg} {g : Int} {k j : Nat} (hj : j < k) (h : j < c.pl.length) (e : (c.pl[j]).2 = g) : tkn c g k = true := by
  rw [tkn, List.any_eq_true]
  exact ⟨c.pl[j], List.mem_take_iff_getElem.2 ⟨j, by omega, rfl⟩, decide_eq_true e⟩
theorem tkn_no {c : Cfg} {g : Int} {k : Nat} (hI : ∀ j, j < k → (c.pl.getD j (0, 0)).2 ≠ g) : tkn c g k = false := by
  rw [tkn, List.any_eq_false]
  intro x hx
  obtain ⟨j, hj, rfl⟩ := List.mem_take_iff_getElem.1 hx
  have := hI j (by omega)
  rw [show c.pl.getD j (0, 0) = c.pl[j]'(by omega) by simp [List.getD, show j < c.pl.length by omega]] at this
  simpa using this
theorem rcPorts_spec (W0 : World) (R : List HP) (c : Cfg) (h : CfOk W0 c) :
    Spec Tryz.prog W0 185 [.agg (cfgV c).toArray] R (fun v B => ∃ r, v = .tuple #[.bool (poW c), .int .i64 r] ∧ B = R) := by
  refine spec_body Tryz.func185 Tryz.ntmps185 rfl rfl ?_
  refine x_seq (x_region (s_do rfl (d_boxA rfl) ?_))
  rintro _ _ ⟨b1, rfl, rfl⟩
  refine s_val rfl (v_assign rfl) (s_val rfl (v_assign rfl) (x_nil (n_then (x_seq (x_seq (x_region ?_))))))
  refine s_val rfl (v_fieldAddr rfl Tryz.underlying28 rfl Tryz.sizeOf24 rfl (by first | exact Nat.zero_add _ | rfl)) ?_
  refine s_val rfl (v_load Tryz.isAgg24 rfl (cell_own rfl)) ?_
  refine s_val rfl (v_len_slice Tryz.underlying24 rfl) (s_val rfl (v_gtr rfl rfl) (x_nil (n_then ?_)))
  refine x_if rfl ?_ ?_
  · intro c1
    refine x_seq (x_region (s_val rfl (v_assign rfl) (s_val rfl (v_assign rfl) (x_nil (n_then (x_ret (r_then (x_done (.inl rfl) (.cons (r_tmp rfl) (.cons (r_tmp rfl) .nil)) ?_))))))))
    rw [poW, decide_eq_true (by omega), Bool.true_or]
    exact ⟨_, ⟨0, rfl, rfl⟩, inferInstance⟩
  · intro c1
    refine x_skip (n_then (x_seq (x_seq (x_region (s_val rfl (v_assign rfl) (x_nil (n_then (x_block ?_))))))))
    refine x_loop (fun i : Nat => i ≤ c.pl.length ∧ (∀ j, j < i → prtW c j = false)) (fun i => [(1, .pointer (some ⟨b1, 0, none⟩)), (4, .int .i64 i)]) (fun _ => pt b1 (cfO c) :: R) (fun i => c.pl.length - i) 0 ?_ ?_ ?_ ?_
    · exact ⟨Nat.zero_le _, fun j hj => absurd hj (Nat.not_lt_zero _)⟩
    · repeat (first | exact sub_nil | refine sub_cons rfl ?_)
    · exact inferInstance
    · intro i ⟨hi, hI⟩
      refine x_seq (x_seq (x_region (s_val rfl (v_move rfl) ?_)))
      refine s_val rfl (v_fieldAddr rfl Tryz.underlying28 rfl Tryz.sizeOf24 rfl (by first | exact Nat.zero_add _ | rfl)) ?_
      refine s_val rfl (v_load Tryz.isAgg24 rfl (cell_own rfl)) ?_
      refine s_val rfl (v_len_slice Tryz.underlying24 rfl) (s_val rfl (v_lss rfl rfl) (x_nil (n_then ?_)))
      refine x_if rfl ?_ ?_
      · intro c4
        refine x_skip (n_then (x_seq (x_block (x_seq ?_))))
        have hi1 : i < c.pl.length := by omega
        obtain ⟨g, o, hga, hc⟩ := (h.p []).at_ hi1
        obtain ⟨⟨p, q⟩, hx⟩ : ∃ x, c.pl[i] = x := ⟨_, rfl⟩
        have hgd : c.pl.getD i (0, 0) = (p, q) := by simp [List.getD, hi1, hx]
        rw [hx] at hc
        have hbad : prtW c i = true → poW c = true := fun z => by
          rw [poW, anyW_yes hi1 z, Bool.or_true]
        have hgood := fun z => any_next (w := prtW c) hI z
        obtain ⟨g1, o1, j1, vs1, hcv1, hr1⟩ := gst_row h q
        obtain ⟨w1, hw1⟩ : ∃ w, isG c q = w := ⟨_, rfl⟩
        obtain ⟨v1, hv1⟩ : ∃ w, vaL p c.cats = w := ⟨_, rfl⟩
        have hW : prtW c i = (!v1 || (decide (q ≠ -1) && (!w1 || decide (p ≠ labG c q) || tkn c q i))) := by rw [prtW, hgd, hw1, hv1]
        rw [hw1] at hr1
        have hlt : w1 = true → 0 ≤ q := fun z => (isG_lt (hw1.trans z)).1
        have hge : w1 = false → ¬ (0 ≤ q ∧ q < c.gl.length) := fun z => isG_no (hw1.trans z)
        refine x_region ?_
        refine s_val rfl (v_fieldAddr rfl Tryz.underlying28 rfl Tryz.sizeOf24 rfl (by first | exact Nat.zero_add _ | rfl)) ?_
        refine s_val rfl (v_load Tryz.isAgg24 rfl (cell_own rfl)) ?_
        refine s_val rfl (v_move rfl) ?_
        refine s_val rfl (v_idxA Tryz.underlying24 Tryz.sizeOf100 rfl hga rfl rfl hi1 (by first | exact Nat.zero_add _ | rfl)) ?_
        refine s_val rfl (v_loadAgg Tryz.isAgg100 Tryz.sizeOf100 rfl hc.weak rfl) ?_
        refine s_do rfl (d_allocA Tryz.zeroValue100) ?_
        rintro _ _ ⟨bx, rfl, rfl⟩
        refine s_do0 (d_storeAll Tryz.sizeOf100 rfl rfl rfl rfl rfl) ?_
        rintro _ _ rfl
        refine x_nil (n_then (x_seq (x_seq (x_region ?_))))
        refine s_val rfl (v_fieldAddr rfl Tryz.underlying100 rfl Tryz.sizeOf3 rfl (by first | exact Nat.zero_add _ | rfl)) ?_
        refine s_val rfl (v_load Tryz.isAgg3 rfl (cell_own rfl)) ?_
        refine s_val rfl (v_fieldAddr rfl Tryz.underlying28 rfl Tryz.sizeOf3 rfl (by first | exact Nat.zero_add _ | rfl)) ?_
        refine s_val rfl (v_load Tryz.isAgg3 rfl (cell_own rfl)) ?_
        refine s_do rfl (d_call Tryz.call235 rfl (rlValid_spec W0 _ p c.cats)) ?_
        rintro _ B_ ⟨rfl, hB_⟩
        obtain rfl := hB_.symm
        rw [hv1]
        refine s_val rfl (v_not rfl) (s_val rfl (v_move rfl) ?_)
        refine s_or rfl rfl rfl ?_ ?_
        · intro g7_7
          refine s_no rfl rfl rfl rfl (s_no rfl rfl rfl rfl (s_no rfl rfl rfl rfl (s_nou rfl rfl rfl (s_nou rfl rfl rfl (s_nou rfl rfl rfl (s_nou rfl rfl rfl (s_nou rfl rfl rfl (s_no rfl rfl rfl rfl (s_val rfl (v_pick_t rfl rfl) (x_nil (n_then (x_ift rfl (x_seq (x_region (s_val rfl (v_move rfl) (s_val rfl (v_assign rfl) (s_val rfl (v_assign rfl) (x_nil (n_then (x_ret (r_then (r_block (r_then ?_)))))))))))))))))))))))
          refine r_then (r_block (r_then (x_done (.inl rfl) (.cons (r_tmp rfl) (.cons (r_tmp rfl) .nil)) ?_)))
          rw [hbad (by rw [hW]; simp_all)]
          exact ⟨_, ⟨_, rfl, rfl⟩, inferInstance⟩
        · intro g7_7
          refine s_val rfl (v_fieldAddr rfl Tryz.underlying100 rfl Tryz.sizeOf3 rfl (by first | exact Nat.zero_add _ | rfl)) ?_
          refine s_yes rfl rfl (s_val rfl (v_load Tryz.isAgg3 rfl (cell_own rfl)) ?_)
          refine s_yes rfl rfl (s_val rfl (v_neq rfl rfl) (s_yes rfl rfl (s_val rfl (v_move rfl) ?_)))
          refine s_and rfl rfl rfl ?_ ?_
          · intro g7_11
            refine s_val rfl (v_loadAll Tryz.isAgg28 Tryz.sizeOf28 rfl rfl) ?_
            refine s_yes rfl rfl ?_
            refine s_val rfl (v_fieldAddr rfl Tryz.underlying100 rfl Tryz.sizeOf3 rfl (by first | exact Nat.zero_add _ | rfl)) ?_
            refine s_yes rfl rfl (s_val rfl (v_load Tryz.isAgg3 rfl (cell_own rfl)) ?_)
            refine s_yes rfl rfl (s_do rfl (d_call Tryz.call188 rfl (rcIsG_spec W0 _ c q)) ?_)
            rintro _ B_ ⟨rfl, hB_⟩
            obtain rfl := hB_.symm
            rw [hw1]
            refine s_yes rfl rfl (s_val rfl (v_not rfl) (s_yes rfl rfl (s_val rfl (v_pick_t rfl rfl) (s_val rfl (v_pick_f rfl rfl) (x_nil (n_then ?_))))))
            refine x_if rfl ?_ ?_
            · intro c7
              refine x_seq (x_region (s_val rfl (v_move rfl) (s_val rfl (v_assign rfl) (s_val rfl (v_assign rfl) (x_nil (n_then (x_ret (r_then (r_block (r_then (r_then (r_block (r_then (x_done (.inl rfl) (.cons (r_tmp rfl) (.cons (r_tmp rfl) .nil)) ?_))))))))))))))
              rw [hbad (by rw [hW]; simp_all)]
              exact ⟨_, ⟨_, rfl, rfl⟩, inferInstance⟩
            · intro c7
              refine x_skip (n_then ?_)
              refine x_cut (fun _ : Unit => v1 = true ∧ (q = -1 ∨ (w1 = true ∧ p = labG c q))) (fun _ => [(1, .pointer (some ⟨b1, 0, none⟩)), (4, .int .i64 i), (5, .pointer (some ⟨bx, 0, none⟩))]) (fun _ => pt bx (cob (pairV (p, q)) 100) :: pt b1 (cfO c) :: R) ?_ ?_
              · skip
                refine x_seq ?_
                have hv2 : v1 = true := by simp_all
                have hq2 : q = -1 ∨ w1 = true := by
                  by_cases z : q = -1
                  · exact .inl z
                  · right; simp_all
                refine x_draw [(b1, 0, cfgV c), (bx, 0, pairV (p, q)), (g1, o1 + j1 * 3, vs1)] 15 mixed rfl (sc_own (sc_own (sc_cons (hcv1 _) sc_end))) (fun hS => ?_)
                refine d_take 0 rfl rfl (by kernel_rfl) (by kernel_rfl) (by kernel_rfl) rfl hS (v_fieldAddr rfl Tryz.underlying100 rfl Tryz.sizeOf3 rfl (by first | exact Nat.zero_add _ | rfl)) ?_
                refine d_take 1 rfl rfl (by kernel_rfl) (by kernel_rfl) (by kernel_rfl) rfl hS (v_load Tryz.isAgg3 rfl (by first | exact cell_sc0 (k := 0) rfl rfl | exact cell_sc0 (k := 1) rfl rfl | exact cell_sc0 (k := 2) rfl rfl | exact cell_sc0 (k := 3) rfl rfl)) ?_
                refine d_take 2 rfl rfl (by kernel_rfl) (by kernel_rfl) (by kernel_rfl) rfl hS (v_geq rfl rfl) ?_
                refine d_take 3 rfl rfl (by kernel_rfl) (by kernel_rfl) (by kernel_rfl) rfl hS (v_move rfl) ?_
                refine x_split (t := 45) rfl ?_ ?_
                · intro g9_4
                  obtain rfl : w1 = true := by
                    rcases hq2 with z | z
                    · exact absurd z (by omega)
                    · exact z
                  obtain ⟨ha1, hq1, hj1, u1, rfl, hl1⟩ := hr1 rfl
                  refine d_take 4 rfl rfl (by kernel_rfl) (by kernel_rfl) (by kernel_rfl) rfl hS (v_fieldAddr rfl Tryz.underlying100 rfl Tryz.sizeOf3 rfl (by first | exact Nat.zero_add _ | rfl)) ?_
                  refine d_take 5 rfl rfl (by kernel_rfl) (by kernel_rfl) (by kernel_rfl) rfl hS (v_load Tryz.isAgg3 rfl (by first | exact cell_sc0 (k := 0) rfl rfl | exact cell_sc0 (k := 1) rfl rfl | exact cell_sc0 (k := 2) rfl rfl | exact cell_sc0 (k := 3) rfl rfl)) ?_
                  refine d_take 6 rfl rfl (by kernel_rfl) (by kernel_rfl) (by kernel_rfl) rfl hS (v_fieldAddr rfl Tryz.underlying28 rfl Tryz.sizeOf22 rfl (by first | exact Nat.zero_add _ | rfl)) ?_
                  refine d_take 7 rfl rfl (by kernel_rfl) (by kernel_rfl) (by kernel_rfl) rfl hS (v_load Tryz.isAgg22 rfl (by first | exact cell_sc0 (k := 0) rfl rfl | exact cell_sc0 (k := 1) rfl rfl | exact cell_sc0 (k := 2) rfl rfl | exact cell_sc0 (k := 3) rfl rfl)) ?_
                  refine d_take 8 rfl rfl (by kernel_rfl) (by kernel_rfl) (by kernel_rfl) rfl hS (v_fieldAddr rfl Tryz.underlying100 rfl Tryz.sizeOf3 rfl (by first | exact Nat.zero_add _ | rfl)) ?_
                  refine d_take 9 rfl rfl (by kernel_rfl) (by kernel_rfl) (by kernel_rfl) rfl hS (v_load Tryz.isAgg3 rfl (by first | exact cell_sc0 (k := 0) rfl rfl | exact cell_sc0 (k := 1) rfl rfl | exact cell_sc0 (k := 2) rfl rfl | exact cell_sc0 (k := 3) rfl rfl)) ?_
                  refine d_take 10 rfl rfl (by kernel_rfl) (by kernel_rfl) (by kernel_rfl) rfl hS (v_idxA Tryz.underlying22 Tryz.sizeOf95 rfl ha1 rfl hq1 hj1 (by first | exact Nat.zero_add _ | rfl)) ?_
                  refine d_take 11 rfl rfl (by kernel_rfl) (by kernel_rfl) (by kernel_rfl) rfl hS (v_fieldAddr rfl Tryz.underlying95 rfl Tryz.sizeOf3 rfl (by first | exact Nat.zero_add _ | rfl)) ?_
                  refine d_take 12 rfl rfl (by kernel_rfl) (by kernel_rfl) (by kernel_rfl) rfl hS (v_load Tryz.isAgg3 rfl (cell_sc (k := 2) (j := 0) rfl rfl)) ?_
                  refine d_take 13 rfl rfl (by kernel_rfl) (by kernel_rfl) (by kernel_rfl) rfl hS (v_neq rfl rfl) ?_
                  refine d_take 14 rfl rfl (by kernel_rfl) (by kernel_rfl) (by kernel_rfl) rfl hS (v_pick_t rfl rfl) ?_
                  refine d_done (by kernel_rfl) ?_; clear hS
                  refine n_then ?_
                  refine x_if rfl ?_ ?_
                  · intro c9
                    refine x_seq (x_region (s_val rfl (v_move rfl) (s_val rfl (v_assign rfl) (s_val rfl (v_assign rfl) (x_nil (n_then (x_ret (r_then (x_done (.inl rfl) (.cons (r_tmp rfl) (.cons (r_tmp rfl) .nil)) ?_)))))))))
                    rw [hbad (by rw [hW, hv2, hl1, decide_eq_true (show p ≠ u1.1 by omega)]; simp_all)]
                    exact ⟨_, ⟨_, rfl, rfl⟩, inferInstance⟩
                  · intro c9
                    refine x_skip (n_then ?_)
                    refine mid_intro () ?_ ?_ ?_
                    · refine ⟨hv2, ?_⟩
                      first
                        | (left; rcases hq2 with z | z
                           · exact z
                           · exact absurd (hlt z) (by omega))
                        | exact .inr ⟨rfl, by rw [hl1]; omega⟩
                    · repeat (first | exact sub_nil | refine sub_cons rfl ?_)
                    · exact inferInstance
                · intro g9_4
                  refine d_skip 4 rfl rfl (by kernel_rfl) (by kernel_rfl) (by kernel_rfl) rfl hS ?_
                  refine d_skip 5 rfl rfl (by kernel_rfl) (by kernel_rfl) (by kernel_rfl) rfl hS ?_
                  refine d_skip 6 rfl rfl (by kernel_rfl) (by kernel_rfl) (by kernel_rfl) rfl hS ?_
                  refine d_skip 7 rfl rfl (by kernel_rfl) (by kernel_rfl) (by kernel_rfl) rfl hS ?_
                  refine d_skip 8 rfl rfl (by kernel_rfl) (by kernel_rfl) (by kernel_rfl) rfl hS ?_
                  refine d_skip 9 rfl rfl (by kernel_rfl) (by kernel_rfl) (by kernel_rfl) rfl hS ?_
                  refine d_skip 10 rfl rfl (by kernel_rfl) (by kernel_rfl) (by kernel_rfl) rfl hS ?_
                  refine d_skip 11 rfl rfl (by kernel_rfl) (by kernel_rfl) (by kernel_rfl) rfl hS ?_
                  refine d_skip 12 rfl rfl (by kernel_rfl) (by kernel_rfl) (by kernel_rfl) rfl hS ?_
                  refine d_skip 13 rfl rfl (by kernel_rfl) (by kernel_rfl) (by kernel_rfl) rfl hS ?_
                  refine d_take 14 rfl rfl (by kernel_rfl) (by kernel_rfl) (by kernel_rfl) rfl hS (v_pick_f rfl rfl) ?_
                  refine d_done (by kernel_rfl) ?_; clear hS
                  refine n_then (x_iff rfl (x_skip (n_then ?_)))
                  refine mid_intro () ?_ ?_ ?_
                  · refine ⟨hv2, ?_⟩
                    first
                      | (left; rcases hq2 with z | z
                         · exact z
                         · exact absurd (hlt z) (by omega))
                      | exact .inr ⟨rfl, by rw [hl1]; omega⟩
                  · repeat (first | exact sub_nil | refine sub_cons rfl ?_)
                  · exact inferInstance
              · intro _ ⟨hv2, hcut⟩
                rw [hv2, show (!true) = false from rfl, Bool.false_or] at hW
                refine x_seq (x_region (s_val rfl (v_assign rfl) (x_nil (n_then (x_block ?_)))))
                refine x_loop (fun k : Nat => k ≤ i ∧ ∀ j, j < k → 0 ≤ q → (c.pl.getD j (0, 0)).2 ≠ q) (fun k => [(1, .pointer (some ⟨b1, 0, none⟩)), (4, .int .i64 i), (5, .pointer (some ⟨bx, 0, none⟩)), (6, .int .i64 k)]) (fun _ => pt bx (cob (pairV (p, q)) 100) :: pt b1 (cfO c) :: R) (fun k => i - k) 0 ?_ ?_ ?_ ?_
                · exact ⟨Nat.zero_le _, fun j hj => absurd hj (Nat.not_lt_zero _)⟩
                · repeat (first | exact sub_nil | refine sub_cons rfl ?_)
                · exact inferInstance
                · intro k ⟨hk, hK⟩
                  refine x_seq (x_seq (x_region (s_val rfl (v_move rfl) (s_val rfl (v_move rfl) (s_val rfl (v_lss rfl rfl) (x_nil (n_then ?_)))))))
                  refine x_if rfl ?_ ?_
                  · intro c12
                    refine x_skip (n_then (x_seq (x_block (x_seq ?_))))
                    have hk1 : k < c.pl.length := by omega
                    obtain ⟨g2, o2, hga2, hc2⟩ := (h.p []).at_ hk1
                    obtain ⟨⟨p2, q2⟩, hx2⟩ : ∃ x, c.pl[k] = x := ⟨_, rfl⟩
                    have hgd2 : c.pl.getD k (0, 0) = (p2, q2) := by simp [List.getD, hk1, hx2]
                    have htk : q2 = q → tkn c q i = true := fun z => tkn_yes (j := k) (by omega) hk1 (by rw [hx2]; exact z)
                    rw [hx2] at hc2
                    refine x_draw [(b1, 0, cfgV c), (bx, 0, pairV (p, q)), (g2, o2 + k * 2, pairV (p2, q2))] 14 mixed rfl (sc_own (sc_own (sc_cons hc2.weak sc_end))) (fun hS => ?_)
                    refine d_take 0 rfl rfl (by kernel_rfl) (by kernel_rfl) (by kernel_rfl) rfl hS (v_fieldAddr rfl Tryz.underlying100 rfl Tryz.sizeOf3 rfl (by first | exact Nat.zero_add _ | rfl)) ?_
                    refine d_take 1 rfl rfl (by kernel_rfl) (by kernel_rfl) (by kernel_rfl) rfl hS (v_load Tryz.isAgg3 rfl (by first | exact cell_sc0 (k := 0) rfl rfl | exact cell_sc0 (k := 1) rfl rfl | exact cell_sc0 (k := 2) rfl rfl | exact cell_sc0 (k := 3) rfl rfl | exact cell_sc0 (k := 4) rfl rfl)) ?_
                    refine d_take 2 rfl rfl (by kernel_rfl) (by kernel_rfl) (by kernel_rfl) rfl hS (v_geq rfl rfl) ?_
                    refine d_take 3 rfl rfl (by kernel_rfl) (by kernel_rfl) (by kernel_rfl) rfl hS (v_move rfl) ?_
                    refine x_split (t := 66) rfl ?_ ?_
                    · intro g14_4
                      refine d_take 4 rfl rfl (by kernel_rfl) (by kernel_rfl) (by kernel_rfl) rfl hS (v_fieldAddr rfl Tryz.underlying28 rfl Tryz.sizeOf24 rfl (by first | exact Nat.zero_add _ | rfl)) ?_
                      refine d_take 5 rfl rfl (by kernel_rfl) (by kernel_rfl) (by kernel_rfl) rfl hS (v_load Tryz.isAgg24 rfl (by first | exact cell_sc0 (k := 0) rfl rfl | exact cell_sc0 (k := 1) rfl rfl | exact cell_sc0 (k := 2) rfl rfl | exact cell_sc0 (k := 3) rfl rfl | exact cell_sc0 (k := 4) rfl rfl)) ?_
                      refine d_take 6 rfl rfl (by kernel_rfl) (by kernel_rfl) (by kernel_rfl) rfl hS (v_move rfl) ?_
                      refine d_take 7 rfl rfl (by kernel_rfl) (by kernel_rfl) (by kernel_rfl) rfl hS (v_idxA Tryz.underlying24 Tryz.sizeOf100 rfl hga2 rfl rfl hk1 (by first | exact Nat.zero_add _ | rfl)) ?_
                      refine d_take 8 rfl rfl (by kernel_rfl) (by kernel_rfl) (by kernel_rfl) rfl hS (v_fieldAddr rfl Tryz.underlying100 rfl Tryz.sizeOf3 rfl (by first | exact Nat.zero_add _ | rfl)) ?_
                      refine d_take 9 rfl rfl (by kernel_rfl) (by kernel_rfl) (by kernel_rfl) rfl hS (v_load Tryz.isAgg3 rfl (cell_sc (k := 2) (j := 1) rfl rfl)) ?_
                      refine d_take 10 rfl rfl (by kernel_rfl) (by kernel_rfl) (by kernel_rfl) rfl hS (v_fieldAddr rfl Tryz.underlying100 rfl Tryz.sizeOf3 rfl (by first | exact Nat.zero_add _ | rfl)) ?_
                      refine d_take 11 rfl rfl (by kernel_rfl) (by kernel_rfl) (by kernel_rfl) rfl hS (v_load Tryz.isAgg3 rfl (by first | exact cell_sc0 (k := 0) rfl rfl | exact cell_sc0 (k := 1) rfl rfl | exact cell_sc0 (k := 2) rfl rfl | exact cell_sc0 (k := 3) rfl rfl | exact cell_sc0 (k := 4) rfl rfl)) ?_
                      refine d_take 12 rfl rfl (by kernel_rfl) (by kernel_rfl) (by kernel_rfl) rfl hS (v_eql rfl rfl) ?_
                      refine d_take 13 rfl rfl (by kernel_rfl) (by kernel_rfl) (by kernel_rfl) rfl hS (v_pick_t rfl rfl) ?_
                      refine d_done (by kernel_rfl) ?_; clear hS
                      refine n_then ?_
                      refine x_if rfl ?_ ?_
                      · intro c14
                        refine x_seq (x_region (s_val rfl (v_move rfl) (s_val rfl (v_assign rfl) (s_val rfl (v_assign rfl) (x_nil (n_then (x_ret (r_block (r_then (r_then (r_block (r_block (r_then (r_then (r_block (r_then (x_done (.inl rfl) (.cons (r_tmp rfl) (.cons (r_tmp rfl) .nil)) ?_)))))))))))))))))
                        have hz : w1 = true := by
                          rcases hcut with z | z
                          · omega
                          · exact z.1
                        rw [hbad (by rw [hW, htk (by omega), decide_eq_true (by omega)]; simp)]
                        exact ⟨_, ⟨_, rfl, rfl⟩, inferInstance⟩
                      · intro c14
                        refine x_skip (n_block (n_then (x_region (s_val rfl (v_move rfl) ?_))))
                        refine s_val rfl (v_add rfl rfl (by first | exact w64 (by omega) | rfl)) ?_
                        refine s_val rfl (v_assign rfl) (x_nil (n_then ?_))
                        refine inv_intro (k + 1) ?_ ?_ ?_ ?_
                        · refine ⟨by omega, fun j hj hq0 => ?_⟩
                          rcases Nat.lt_or_ge j k with z | z
                          · exact hK j z hq0
                          · rw [show j = k by omega, hgd2]
                            dsimp only
                            omega
                        · omega
                        · repeat (first | exact sub_nil | refine sub_cons rfl ?_)
                        · exact inferInstance
                    · intro g14_4
                      refine d_skip 4 rfl rfl (by kernel_rfl) (by kernel_rfl) (by kernel_rfl) rfl hS ?_
                      refine d_skip 5 rfl rfl (by kernel_rfl) (by kernel_rfl) (by kernel_rfl) rfl hS ?_
                      refine d_skip 6 rfl rfl (by kernel_rfl) (by kernel_rfl) (by kernel_rfl) rfl hS ?_
                      refine d_skip 7 rfl rfl (by kernel_rfl) (by kernel_rfl) (by kernel_rfl) rfl hS ?_
                      refine d_skip 8 rfl rfl (by kernel_rfl) (by kernel_rfl) (by kernel_rfl) rfl hS ?_
                      refine d_skip 9 rfl rfl (by kernel_rfl) (by kernel_rfl) (by kernel_rfl) rfl hS ?_
                      refine d_skip 10 rfl rfl (by kernel_rfl) (by kernel_rfl) (by kernel_rfl) rfl hS ?_
                      refine d_skip 11 rfl rfl (by kernel_rfl) (by kernel_rfl) (by kernel_rfl) rfl hS ?_
                      refine d_skip 12 rfl rfl (by kernel_rfl) (by kernel_rfl) (by kernel_rfl) rfl hS ?_
                      refine d_take 13 rfl rfl (by kernel_rfl) (by kernel_rfl) (by kernel_rfl) rfl hS (v_pick_f rfl rfl) ?_
                      refine d_done (by kernel_rfl) ?_; clear hS
                      refine n_then (x_iff rfl (x_skip (n_block (n_then (x_region (s_val rfl (v_move rfl) ?_))))))
                      refine s_val rfl (v_add rfl rfl (by first | exact w64 (by omega) | rfl)) ?_
                      refine s_val rfl (v_assign rfl) (x_nil (n_then ?_))
                      refine inv_intro (k + 1) ?_ ?_ ?_ ?_
                      · refine ⟨by omega, fun j hj hq0 => ?_⟩
                        rcases Nat.lt_or_ge j k with z | z
                        · exact hK j z hq0
                        · rw [show j = k by omega, hgd2]
                          dsimp only
                          omega
                      · omega
                      · repeat (first | exact sub_nil | refine sub_cons rfl ?_)
                      · exact inferInstance
                  · intro c12
                    refine x_exit (e_then (e_then (e_block (n_block (n_then (x_region (s_val rfl (v_move rfl) ?_)))))))
                    refine s_val rfl (v_add rfl rfl (by first | exact w64 (by omega) | rfl)) ?_
                    refine s_val rfl (v_assign rfl) (x_nil (n_then ?_))
                    refine inv_intro (i + 1) ?_ ?_ ?_ ?_
                    · refine ⟨by omega, hgood ?_⟩
                      rw [hW]
                      rcases hcut with z | ⟨z1, z2⟩
                      · rw [z]; rfl
                      · rw [z1, tkn_no (fun j hj => hK j (by omega) (hlt z1)), decide_eq_false (by omega : ¬ p ≠ labG c q)]
                        simp
                    · omega
                    · repeat (first | exact sub_nil | refine sub_cons rfl ?_)
                    · exact inferInstance
          · intro g7_11
            refine s_no rfl rfl rfl rfl (s_no rfl rfl rfl rfl (s_no rfl rfl rfl rfl (s_no rfl rfl rfl rfl (s_yes rfl rfl (s_val rfl (v_pick_f rfl rfl) (s_val rfl (v_pick_f rfl rfl) (x_nil (n_then (x_iff rfl (x_skip (n_then ?_)))))))))))
            refine x_cut (fun _ : Unit => v1 = true ∧ (q = -1 ∨ (w1 = true ∧ p = labG c q))) (fun _ => [(1, .pointer (some ⟨b1, 0, none⟩)), (4, .int .i64 i), (5, .pointer (some ⟨bx, 0, none⟩))]) (fun _ => pt bx (cob (pairV (p, q)) 100) :: pt b1 (cfO c) :: R) ?_ ?_
            · skip
              refine x_seq ?_
              have hv2 : v1 = true := by simp_all
              have hq2 : q = -1 ∨ w1 = true := by
                by_cases z : q = -1
                · exact .inl z
                · right; simp_all
              refine x_draw [(b1, 0, cfgV c), (bx, 0, pairV (p, q)), (g1, o1 + j1 * 3, vs1)] 15 mixed rfl (sc_own (sc_own (sc_cons (hcv1 _) sc_end))) (fun hS => ?_)
              refine d_take 0 rfl rfl (by kernel_rfl) (by kernel_rfl) (by kernel_rfl) rfl hS (v_fieldAddr rfl Tryz.underlying100 rfl Tryz.sizeOf3 rfl (by first | exact Nat.zero_add _ | rfl)) ?_
              refine d_take 1 rfl rfl (by kernel_rfl) (by kernel_rfl) (by kernel_rfl) rfl hS (v_load Tryz.isAgg3 rfl (by first | exact cell_sc0 (k := 0) rfl rfl | exact cell_sc0 (k := 1) rfl rfl | exact cell_sc0 (k := 2) rfl rfl | exact cell_sc0 (k := 3) rfl rfl)) ?_
              refine d_take 2 rfl rfl (by kernel_rfl) (by kernel_rfl) (by kernel_rfl) rfl hS (v_geq rfl rfl) ?_
              refine d_take 3 rfl rfl (by kernel_rfl) (by kernel_rfl) (by kernel_rfl) rfl hS (v_move rfl) ?_
              refine x_split (t := 45) rfl ?_ ?_
              · intro g9_4
                obtain rfl : w1 = true := by
                  rcases hq2 with z | z
                  · exact absurd z (by omega)
                  · exact z
                obtain ⟨ha1, hq1, hj1, u1, rfl, hl1⟩ := hr1 rfl
                refine d_take 4 rfl rfl (by kernel_rfl) (by kernel_rfl) (by kernel_rfl) rfl hS (v_fieldAddr rfl Tryz.underlying100 rfl Tryz.sizeOf3 rfl (by first | exact Nat.zero_add _ | rfl)) ?_
                refine d_take 5 rfl rfl (by kernel_rfl) (by kernel_rfl) (by kernel_rfl) rfl hS (v_load Tryz.isAgg3 rfl (by first | exact cell_sc0 (k := 0) rfl rfl | exact cell_sc0 (k := 1) rfl rfl | exact cell_sc0 (k := 2) rfl rfl | exact cell_sc0 (k := 3) rfl rfl)) ?_
                refine d_take 6 rfl rfl (by kernel_rfl) (by kernel_rfl) (by kernel_rfl) rfl hS (v_fieldAddr rfl Tryz.underlying28 rfl Tryz.sizeOf22 rfl (by first | exact Nat.zero_add _ | rfl)) ?_
                refine d_take 7 rfl rfl (by kernel_rfl) (by kernel_rfl) (by kernel_rfl) rfl hS (v_load Tryz.isAgg22 rfl (by first | exact cell_sc0 (k := 0) rfl rfl | exact cell_sc0 (k := 1) rfl rfl | exact cell_sc0 (k := 2) rfl rfl | exact cell_sc0 (k := 3) rfl rfl)) ?_
                refine d_take 8 rfl rfl (by kernel_rfl) (by kernel_rfl) (by kernel_rfl) rfl hS (v_fieldAddr rfl Tryz.underlying100 rfl Tryz.sizeOf3 rfl (by first | exact Nat.zero_add _ | rfl)) ?_
                refine d_take 9 rfl rfl (by kernel_rfl) (by kernel_rfl) (by kernel_rfl) rfl hS (v_load Tryz.isAgg3 rfl (by first | exact cell_sc0 (k := 0) rfl rfl | exact cell_sc0 (k := 1) rfl rfl | exact cell_sc0 (k := 2) rfl rfl | exact cell_sc0 (k := 3) rfl rfl)) ?_
                refine d_take 10 rfl rfl (by kernel_rfl) (by kernel_rfl) (by kernel_rfl) rfl hS (v_idxA Tryz.underlying22 Tryz.sizeOf95 rfl ha1 rfl hq1 hj1 (by first | exact Nat.zero_add _ | rfl)) ?_
                refine d_take 11 rfl rfl (by kernel_rfl) (by kernel_rfl) (by kernel_rfl) rfl hS (v_fieldAddr rfl Tryz.underlying95 rfl Tryz.sizeOf3 rfl (by first | exact Nat.zero_add _ | rfl)) ?_
                refine d_take 12 rfl rfl (by kernel_rfl) (by kernel_rfl) (by kernel_rfl) rfl hS (v_load Tryz.isAgg3 rfl (cell_sc (k := 2) (j := 0) rfl rfl)) ?_
                refine d_take 13 rfl rfl (by kernel_rfl) (by kernel_rfl) (by kernel_rfl) rfl hS (v_neq rfl rfl) ?_
                refine d_take 14 rfl rfl (by kernel_rfl) (by kernel_rfl) (by kernel_rfl) rfl hS (v_pick_t rfl rfl) ?_
                refine d_done (by kernel_rfl) ?_; clear hS
                refine n_then ?_
                refine x_if rfl ?_ ?_
                · intro c9
                  refine x_seq (x_region (s_val rfl (v_move rfl) (s_val rfl (v_assign rfl) (s_val rfl (v_assign rfl) (x_nil (n_then (x_ret (r_then (x_done (.inl rfl) (.cons (r_tmp rfl) (.cons (r_tmp rfl) .nil)) ?_)))))))))
                  rw [hbad (by rw [hW, hv2, hl1, decide_eq_true (show p ≠ u1.1 by omega)]; simp_all)]
                  exact ⟨_, ⟨_, rfl, rfl⟩, inferInstance⟩
                · intro c9
                  refine x_skip (n_then ?_)
                  refine mid_intro () ?_ ?_ ?_
                  · refine ⟨hv2, ?_⟩
                    first
                      | (left; rcases hq2 with z | z
                         · exact z
                         · exact absurd (hlt z) (by omega))
                      | exact .inr ⟨rfl, by rw [hl1]; omega⟩
                  · repeat (first | exact sub_nil | refine sub_cons rfl ?_)
                  · exact inferInstance
              · intro g9_4
                refine d_skip 4 rfl rfl (by kernel_rfl) (by kernel_rfl) (by kernel_rfl) rfl hS ?_
                refine d_skip 5 rfl rfl (by kernel_rfl) (by kernel_rfl) (by kernel_rfl) rfl hS ?_
                refine d_skip 6 rfl rfl (by kernel_rfl) (by kernel_rfl) (by kernel_rfl) rfl hS ?_
                refine d_skip 7 rfl rfl (by kernel_rfl) (by kernel_rfl) (by kernel_rfl) rfl hS ?_
                refine d_skip 8 rfl rfl (by kernel_rfl) (by kernel_rfl) (by kernel_rfl) rfl hS ?_
                refine d_skip 9 rfl rfl (by kernel_rfl) (by kernel_rfl) (by kernel_rfl) rfl hS ?_
                refine d_skip 10 rfl rfl (by kernel_rfl) (by kernel_rfl) (by kernel_rfl) rfl hS ?_
                refine d_skip 11 rfl rfl (by kernel_rfl) (by kernel_rfl) (by kernel_rfl) rfl hS ?_
                refine d_skip 12 rfl rfl (by kernel_rfl) (by kernel_rfl) (by kernel_rfl) rfl hS ?_
                refine d_skip 13 rfl rfl (by kernel_rfl) (by kernel_rfl) (by kernel_rfl) rfl hS ?_
                refine d_take 14 rfl rfl (by kernel_rfl) (by kernel_rfl) (by kernel_rfl) rfl hS (v_pick_f rfl rfl) ?_
                refine d_done (by kernel_rfl) ?_; clear hS
                refine n_then (x_iff rfl (x_skip (n_then ?_)))
                refine mid_intro () ?_ ?_ ?_
                · refine ⟨hv2, ?_⟩
                  first
                    | (left; rcases hq2 with z | z
                       · exact z
                       · exact absurd (hlt z) (by omega))
                    | exact .inr ⟨rfl, by rw [hl1]; omega⟩
                · repeat (first | exact sub_nil | refine sub_cons rfl ?_)
                · exact inferInstance
            · intro _ ⟨hv2, hcut⟩
              rw [hv2, show (!true) = false from rfl, Bool.false_or] at hW
              refine x_seq (x_region (s_val rfl (v_assign rfl) (x_nil (n_then (x_block ?_)))))
              refine x_loop (fun k : Nat => k ≤ i ∧ ∀ j, j < k → 0 ≤ q → (c.pl.getD j (0, 0)).2 ≠ q) (fun k => [(1, .pointer (some ⟨b1, 0, none⟩)), (4, .int .i64 i), (5, .pointer (some ⟨bx, 0, none⟩)), (6, .int .i64 k)]) (fun _ => pt bx (cob (pairV (p, q)) 100) :: pt b1 (cfO c) :: R) (fun k => i - k) 0 ?_ ?_ ?_ ?_
              · exact ⟨Nat.zero_le _, fun j hj => absurd hj (Nat.not_lt_zero _)⟩
              · repeat (first | exact sub_nil | refine sub_cons rfl ?_)
              · exact inferInstance
              · intro k ⟨hk, hK⟩
                refine x_seq (x_seq (x_region (s_val rfl (v_move rfl) (s_val rfl (v_move rfl) (s_val rfl (v_lss rfl rfl) (x_nil (n_then ?_)))))))
                refine x_if rfl ?_ ?_
                · intro c12
                  refine x_skip (n_then (x_seq (x_block (x_seq ?_))))
                  have hk1 : k < c.pl.length := by omega
                  obtain ⟨g2, o2, hga2, hc2⟩ := (h.p []).at_ hk1
                  obtain ⟨⟨p2, q2⟩, hx2⟩ : ∃ x, c.pl[k] = x := ⟨_, rfl⟩
                  have hgd2 : c.pl.getD k (0, 0) = (p2, q2) := by simp [List.getD, hk1, hx2]
                  have htk : q2 = q → tkn c q i = true := fun z => tkn_yes (j := k) (by omega) hk1 (by rw [hx2]; exact z)
                  rw [hx2] at hc2
                  refine x_draw [(b1, 0, cfgV c), (bx, 0, pairV (p, q)), (g2, o2 + k * 2, pairV (p2, q2))] 14 mixed rfl (sc_own (sc_own (sc_cons hc2.weak sc_end))) (fun hS => ?_)
                  refine d_take 0 rfl rfl (by kernel_rfl) (by kernel_rfl) (by kernel_rfl) rfl hS (v_fieldAddr rfl Tryz.underlying100 rfl Tryz.sizeOf3 rfl (by first | exact Nat.zero_add _ | rfl)) ?_
                  refine d_take 1 rfl rfl (by kernel_rfl) (by kernel_rfl) (by kernel_rfl) rfl hS (v_load Tryz.isAgg3 rfl (by first | exact cell_sc0 (k := 0) rfl rfl | exact cell_sc0 (k := 1) rfl rfl | exact cell_sc0 (k := 2) rfl rfl | exact cell_sc0 (k := 3) rfl rfl | exact cell_sc0 (k := 4) rfl rfl)) ?_
                  refine d_take 2 rfl rfl (by kernel_rfl) (by kernel_rfl) (by kernel_rfl) rfl hS (v_geq rfl rfl) ?_
                  refine d_take 3 rfl rfl (by kernel_rfl) (by kernel_rfl) (by kernel_rfl) rfl hS (v_move rfl) ?_
                  refine x_split (t := 66) rfl ?_ ?_
                  · intro g14_4
                    refine d_take 4 rfl rfl (by kernel_rfl) (by kernel_rfl) (by kernel_rfl) rfl hS (v_fieldAddr rfl Tryz.underlying28 rfl Tryz.sizeOf24 rfl (by first | exact Nat.zero_add _ | rfl)) ?_
                    refine d_take 5 rfl rfl (by kernel_rfl) (by kernel_rfl) (by kernel_rfl) rfl hS (v_load Tryz.isAgg24 rfl (by first | exact cell_sc0 (k := 0) rfl rfl | exact cell_sc0 (k := 1) rfl rfl | exact cell_sc0 (k := 2) rfl rfl | exact cell_sc0 (k := 3) rfl rfl | exact cell_sc0 (k := 4) rfl rfl)) ?_
                    refine d_take 6 rfl rfl (by kernel_rfl) (by kernel_rfl) (by kernel_rfl) rfl hS (v_move rfl) ?_
                    refine d_take 7 rfl rfl (by kernel_rfl) (by kernel_rfl) (by kernel_rfl) rfl hS (v_idxA Tryz.underlying24 Tryz.sizeOf100 rfl hga2 rfl rfl hk1 (by first | exact Nat.zero_add _ | rfl)) ?_
                    refine d_take 8 rfl rfl (by kernel_rfl) (by kernel_rfl) (by kernel_rfl) rfl hS (v_fieldAddr rfl Tryz.underlying100 rfl Tryz.sizeOf3 rfl (by first | exact Nat.zero_add _ | rfl)) ?_
                    refine d_take 9 rfl rfl (by kernel_rfl) (by kernel_rfl) (by kernel_rfl) rfl hS (v_load Tryz.isAgg3 rfl (cell_sc (k := 2) (j := 1) rfl rfl)) ?_
                    refine d_take 10 rfl rfl (by kernel_rfl) (by kernel_rfl) (by kernel_rfl) rfl hS (v_fieldAddr rfl Tryz.underlying100 rfl Tryz.sizeOf3 rfl (by first | exact Nat.zero_add _ | rfl)) ?_
                    refine d_take 11 rfl rfl (by kernel_rfl) (by kernel_rfl) (by kernel_rfl) rfl hS (v_load Tryz.isAgg3 rfl (by first | exact cell_sc0 (k := 0) rfl rfl | exact cell_sc0 (k := 1) rfl rfl | exact cell_sc0 (k := 2) rfl rfl | exact cell_sc0 (k := 3) rfl rfl | exact cell_sc0 (k := 4) rfl rfl)) ?_
                    refine d_take 12 rfl rfl (by kernel_rfl) (by kernel_rfl) (by kernel_rfl) rfl hS (v_eql rfl rfl) ?_
                    refine d_take 13 rfl rfl (by kernel_rfl) (by kernel_rfl) (by kernel_rfl) rfl hS (v_pick_t rfl rfl) ?_
                    refine d_done (by kernel_rfl) ?_; clear hS
                    refine n_then ?_
                    refine x_if rfl ?_ ?_
                    · intro c14
                      refine x_seq (x_region (s_val rfl (v_move rfl) (s_val rfl (v_assign rfl) (s_val rfl (v_assign rfl) (x_nil (n_then (x_ret (r_block (r_then (r_then (r_block (r_block (r_then (r_then (r_block (r_then (x_done (.inl rfl) (.cons (r_tmp rfl) (.cons (r_tmp rfl) .nil)) ?_)))))))))))))))))
                      have hz : w1 = true := by
                        rcases hcut with z | z
                        · omega
                        · exact z.1
                      rw [hbad (by rw [hW, htk (by omega), decide_eq_true (by omega)]; simp)]
                      exact ⟨_, ⟨_, rfl, rfl⟩, inferInstance⟩
                    · intro c14
                      refine x_skip (n_block (n_then (x_region (s_val rfl (v_move rfl) ?_))))
                      refine s_val rfl (v_add rfl rfl (by first | exact w64 (by omega) | rfl)) ?_
                      refine s_val rfl (v_assign rfl) (x_nil (n_then ?_))
                      refine inv_intro (k + 1) ?_ ?_ ?_ ?_
                      · refine ⟨by omega, fun j hj hq0 => ?_⟩
                        rcases Nat.lt_or_ge j k with z | z
                        · exact hK j z hq0
                        · rw [show j = k by omega, hgd2]
                          dsimp only
                          omega
                      · omega
                      · repeat (first | exact sub_nil | refine sub_cons rfl ?_)
                      · exact inferInstance
                  · intro g14_4
                    refine d_skip 4 rfl rfl (by kernel_rfl) (by kernel_rfl) (by kernel_rfl) rfl hS ?_
                    refine d_skip 5 rfl rfl (by kernel_rfl) (by kernel_rfl) (by kernel_rfl) rfl hS ?_
                    refine d_skip 6 rfl rfl (by kernel_rfl) (by kernel_rfl) (by kernel_rfl) rfl hS ?_
                    refine d_skip 7 rfl rfl (by kernel_rfl) (by kernel_rfl) (by kernel_rfl) rfl hS ?_
                    refine d_skip 8 rfl rfl (by kernel_rfl) (by kernel_rfl) (by kernel_rfl) rfl hS ?_
                    refine d_skip 9 rfl rfl (by kernel_rfl) (by kernel_rfl) (by kernel_rfl) rfl hS ?_
                    refine d_skip 10 rfl rfl (by kernel_rfl) (by kernel_rfl) (by kernel_rfl) rfl hS ?_
                    refine d_skip 11 rfl rfl (by kernel_rfl) (by kernel_rfl) (by kernel_rfl) rfl hS ?_
                    refine d_skip 12 rfl rfl (by kernel_rfl) (by kernel_rfl) (by kernel_rfl) rfl hS ?_
                    refine d_take 13 rfl rfl (by kernel_rfl) (by kernel_rfl) (by kernel_rfl) rfl hS (v_pick_f rfl rfl) ?_
                    refine d_done (by kernel_rfl) ?_; clear hS
                    refine n_then (x_iff rfl (x_skip (n_block (n_then (x_region (s_val rfl (v_move rfl) ?_))))))
                    refine s_val rfl (v_add rfl rfl (by first | exact w64 (by omega) | rfl)) ?_
                    refine s_val rfl (v_assign rfl) (x_nil (n_then ?_))
                    refine inv_intro (k + 1) ?_ ?_ ?_ ?_
                    · refine ⟨by omega, fun j hj hq0 => ?_⟩
                      rcases Nat.lt_or_ge j k with z | z
                      · exact hK j z hq0
                      · rw [show j = k by omega, hgd2]
                        dsimp only
                        omega
                    · omega
                    · repeat (first | exact sub_nil | refine sub_cons rfl ?_)
                    · exact inferInstance
                · intro c12
                  refine x_exit (e_then (e_then (e_block (n_block (n_then (x_region (s_val rfl (v_move rfl) ?_)))))))
                  refine s_val rfl (v_add rfl rfl (by first | exact w64 (by omega) | rfl)) ?_
                  refine s_val rfl (v_assign rfl) (x_nil (n_then ?_))
                  refine inv_intro (i + 1) ?_ ?_ ?_ ?_
                  · refine ⟨by omega, hgood ?_⟩
                    rw [hW]
                    rcases hcut with z | ⟨z1, z2⟩
                    · rw [z]; rfl
                    · rw [z1, tkn_no (fun j hj => hK j (by omega) (hlt z1)), decide_eq_false (by omega : ¬ p ≠ labG c q)]
                      simp
                  · omega
                  · repeat (first | exact sub_nil | refine sub_cons rfl ?_)
                  · exact inferInstance
      · intro c4
        refine x_exit (e_then (e_then (e_block (n_then (x_seq (x_region (s_val rfl (v_assign rfl) (s_val rfl (v_assign rfl) (x_nil (n_then (x_ret (x_done (.inl rfl) (.cons (r_tmp rfl) (.cons (r_tmp rfl) .nil)) ?_))))))))))))
        obtain rfl : i = c.pl.length := by omega
        rw [poW, decide_eq_false (by omega), Bool.false_or, anyW_no hI]
        exact ⟨_, ⟨0, rfl, rfl⟩, inferInstance⟩
theorem riW_no {c : Cfg} (h : riW c = false) : c.nl.length ≤ 4 := by
  simp only [riW, Bool.or_eq_false_iff, decide_eq_false_iff_not] at h; omega
theorem rcCheck_spec (W0 : World) (R : List HP) (c : Cfg) (h : CfOk W0 c) :
    Spec Tryz.prog W0 110 [.agg (cfgV c).toArray] R (fun v B => ∃ at_, v = .tuple #[.int .i64 (ckE c), .int .i64 at_] ∧ B = R) := by
  obtain ⟨w1, hw1⟩ : ∃ w, isG c c.gate = w := ⟨_, rfl⟩
  have hG : gtW c = if c.gate = -1 then decide (c.quota ≠ 0) else !(w1 && decide (0 ≤ c.quota ∧ c.quota ≤ 64)) := by rw [gtW, hw1]
  obtain ⟨x0, hx0⟩ : ∃ x, ckE c = x := ⟨_, rfl⟩
  obtain ⟨x1, hx1⟩ : ∃ x, grW c = x := ⟨_, rfl⟩
  obtain ⟨x2, hx2⟩ : ∃ x, raW c = x := ⟨_, rfl⟩
  obtain ⟨x3, hx3⟩ : ∃ x, poW c = x := ⟨_, rfl⟩
  obtain ⟨x4, hx4⟩ : ∃ x, riW c = x := ⟨_, rfl⟩
  obtain ⟨x5, hx5⟩ : ∃ x, slW c = x := ⟨_, rfl⟩
  obtain ⟨x6, hx6⟩ : ∃ x, gtW c = x := ⟨_, rfl⟩
  have hC : x0 = if c.cats < 0 ∨ 8 < c.cats then 12 else if x1 then 13 else if x2 then 14 else if x3 then 15 else if x4 then 16 else if x5 then 17 else if x6 then 18 else if 32 < ndK c c.gl.length then 19 else 0 := by rw [← hx0, ckE, hx1, hx2, hx3, hx4, hx5, hx6]
  rw [hx6] at hG
  rw [hx0]
  refine spec_body Tryz.func110 Tryz.ntmps110 rfl rfl ?_
  refine x_seq (x_region (s_do rfl (d_boxA rfl) ?_))
  rintro _ _ ⟨b1, rfl, rfl⟩
  refine s_val rfl (v_assign rfl) (s_val rfl (v_assign rfl) (x_nil (n_then (x_seq (x_seq (x_region ?_))))))
  refine s_val rfl (v_fieldAddr rfl Tryz.underlying28 rfl Tryz.sizeOf3 rfl (by first | exact Nat.zero_add _ | rfl)) ?_
  refine s_val rfl (v_load Tryz.isAgg3 rfl (cell_own rfl)) ?_
  refine s_val rfl (v_lss rfl rfl) (s_val rfl (v_move rfl) ?_)
  refine s_or rfl rfl rfl ?_ ?_
  · intro g1_4
    refine s_no rfl rfl rfl rfl (s_no rfl rfl rfl rfl (s_val rfl (v_pick_t rfl rfl) (x_nil (n_then (x_ift rfl (x_seq (x_region (s_val rfl (v_assign rfl) (s_val rfl (v_assign rfl) (x_nil (n_then (x_ret (r_then (x_done (.inl rfl) (.cons (r_tmp rfl) (.cons (r_tmp rfl) .nil)) ?_))))))))))))))
    rw [hC, if_pos (by omega)]
    exact ⟨_, ⟨0, rfl, rfl⟩, inferInstance⟩
  · intro g1_4
    refine s_val rfl (v_fieldAddr rfl Tryz.underlying28 rfl Tryz.sizeOf3 rfl (by first | exact Nat.zero_add _ | rfl)) ?_
    refine s_yes rfl rfl (s_val rfl (v_load Tryz.isAgg3 rfl (cell_own rfl)) ?_)
    refine s_yes rfl rfl (s_val rfl (v_gtr rfl rfl) (s_val rfl (v_pick_f rfl rfl) (x_nil (n_then ?_))))
    refine x_if rfl ?_ ?_
    · intro c1
      refine x_seq (x_region (s_val rfl (v_assign rfl) (s_val rfl (v_assign rfl) (x_nil (n_then (x_ret (r_then (x_done (.inl rfl) (.cons (r_tmp rfl) (.cons (r_tmp rfl) .nil)) ?_))))))))
      rw [hC, if_pos (by omega)]
      exact ⟨_, ⟨0, rfl, rfl⟩, inferInstance⟩
    · intro c1
      refine x_skip (n_then (x_seq ?_))
      rw [if_neg (by omega)] at hC
      refine x_region (s_val rfl (v_loadAll Tryz.isAgg28 Tryz.sizeOf28 rfl rfl) ?_)
      refine s_do rfl (d_call Tryz.call183 rfl (rcGuests_spec W0 _ c h)) ?_
      rintro _ B_ ⟨r1, rfl, hB_⟩
      obtain rfl := hB_.symm
      rw [hx1]
      refine s_val rfl (v_move rfl) (s_val rfl (v_extract rfl rfl) (s_val rfl (v_extract rfl rfl) (s_val rfl (v_assign rfl) (s_val rfl (v_assign rfl) (x_nil (n_then (x_seq (x_seq (x_region (s_val rfl (v_move rfl) (x_nil (n_then ?_))))))))))))
      refine x_if rfl ?_ ?_
      · intro c4
        refine x_seq (x_region (s_val rfl (v_move rfl) (s_val rfl (v_assign rfl) (s_val rfl (v_assign rfl) (x_nil (n_then (x_ret (r_then (x_done (.inl rfl) (.cons (r_tmp rfl) (.cons (r_tmp rfl) .nil)) ?_)))))))))
        rw [hC, if_pos (by simpa using c4)]
        exact ⟨_, ⟨r1, rfl, rfl⟩, inferInstance⟩
      · intro c4
        refine x_skip (n_then (x_seq ?_))
        rw [if_neg (by simpa using c4)] at hC
        refine x_region (s_val rfl (v_loadAll Tryz.isAgg28 Tryz.sizeOf28 rfl rfl) ?_)
        refine s_do rfl (d_call Tryz.call184 rfl (rcRanges_spec W0 _ c h)) ?_
        rintro _ B_ ⟨r2, rfl, hB_⟩
        obtain rfl := hB_.symm
        rw [hx2]
        refine s_val rfl (v_move rfl) (s_val rfl (v_extract rfl rfl) (s_val rfl (v_extract rfl rfl) (s_val rfl (v_assign rfl) (s_val rfl (v_assign rfl) (x_nil (n_then (x_seq (x_seq (x_region (s_val rfl (v_move rfl) (x_nil (n_then ?_))))))))))))
        refine x_if rfl ?_ ?_
        · intro c7
          refine x_seq (x_region (s_val rfl (v_move rfl) (s_val rfl (v_assign rfl) (s_val rfl (v_assign rfl) (x_nil (n_then (x_ret (r_then (x_done (.inl rfl) (.cons (r_tmp rfl) (.cons (r_tmp rfl) .nil)) ?_)))))))))
          rw [hC, if_pos (by simpa using c7)]
          exact ⟨_, ⟨r2, rfl, rfl⟩, inferInstance⟩
        · intro c7
          refine x_skip (n_then (x_seq ?_))
          rw [if_neg (by simpa using c7)] at hC
          refine x_region (s_val rfl (v_loadAll Tryz.isAgg28 Tryz.sizeOf28 rfl rfl) ?_)
          refine s_do rfl (d_call Tryz.call185 rfl (rcPorts_spec W0 _ c h)) ?_
          rintro _ B_ ⟨r3, rfl, hB_⟩
          obtain rfl := hB_.symm
          rw [hx3]
          refine s_val rfl (v_move rfl) (s_val rfl (v_extract rfl rfl) (s_val rfl (v_extract rfl rfl) (s_val rfl (v_assign rfl) (s_val rfl (v_assign rfl) (x_nil (n_then (x_seq (x_seq (x_region (s_val rfl (v_move rfl) (x_nil (n_then ?_))))))))))))
          refine x_if rfl ?_ ?_
          · intro c10
            refine x_seq (x_region (s_val rfl (v_move rfl) (s_val rfl (v_assign rfl) (s_val rfl (v_assign rfl) (x_nil (n_then (x_ret (r_then (x_done (.inl rfl) (.cons (r_tmp rfl) (.cons (r_tmp rfl) .nil)) ?_)))))))))
            rw [hC, if_pos (by simpa using c10)]
            exact ⟨_, ⟨r3, rfl, rfl⟩, inferInstance⟩
          · intro c10
            refine x_skip (n_then (x_seq ?_))
            rw [if_neg (by simpa using c10)] at hC
            refine x_region (s_val rfl (v_loadAll Tryz.isAgg28 Tryz.sizeOf28 rfl rfl) ?_)
            refine s_do rfl (d_call Tryz.call186 rfl (rcRings_spec W0 _ c h)) ?_
            rintro _ B_ ⟨r4, rfl, hB_⟩
            obtain rfl := hB_.symm
            rw [hx4]
            refine s_val rfl (v_move rfl) (s_val rfl (v_extract rfl rfl) (s_val rfl (v_extract rfl rfl) (s_val rfl (v_assign rfl) (s_val rfl (v_assign rfl) (x_nil (n_then (x_seq (x_seq (x_region (s_val rfl (v_move rfl) (x_nil (n_then ?_))))))))))))
            refine x_if rfl ?_ ?_
            · intro c13
              refine x_seq (x_region (s_val rfl (v_move rfl) (s_val rfl (v_assign rfl) (s_val rfl (v_assign rfl) (x_nil (n_then (x_ret (r_then (x_done (.inl rfl) (.cons (r_tmp rfl) (.cons (r_tmp rfl) .nil)) ?_)))))))))
              rw [hC, if_pos (by simpa using c13)]
              exact ⟨_, ⟨r4, rfl, rfl⟩, inferInstance⟩
            · intro c13
              refine x_skip (n_then (x_seq ?_))
              rw [if_neg (by simpa using c13)] at hC
              refine x_region (s_val rfl (v_loadAll Tryz.isAgg28 Tryz.sizeOf28 rfl rfl) ?_)
              refine s_do rfl (d_call Tryz.call187 rfl (rcSlots_spec W0 _ c h)) ?_
              rintro _ B_ ⟨r5, rfl, hB_⟩
              obtain rfl := hB_.symm
              rw [hx5]
              refine s_val rfl (v_move rfl) (s_val rfl (v_extract rfl rfl) (s_val rfl (v_extract rfl rfl) (s_val rfl (v_assign rfl) (s_val rfl (v_assign rfl) (x_nil (n_then (x_seq (x_seq (x_region (s_val rfl (v_move rfl) (x_nil (n_then ?_))))))))))))
              refine x_if rfl ?_ ?_
              · intro c16
                refine x_seq (x_region (s_val rfl (v_move rfl) (s_val rfl (v_assign rfl) (s_val rfl (v_assign rfl) (x_nil (n_then (x_ret (r_then (x_done (.inl rfl) (.cons (r_tmp rfl) (.cons (r_tmp rfl) .nil)) ?_)))))))))
                rw [hC, if_pos (by simpa using c16)]
                exact ⟨_, ⟨r5, rfl, rfl⟩, inferInstance⟩
              · intro c16
                refine x_skip (n_then (x_seq (x_seq ?_)))
                rw [if_neg (by simpa using c16)] at hC
                refine x_region ?_
                refine s_val rfl (v_fieldAddr rfl Tryz.underlying28 rfl Tryz.sizeOf3 rfl (by first | exact Nat.zero_add _ | rfl)) ?_
                refine s_val rfl (v_load Tryz.isAgg3 rfl (cell_own rfl)) ?_
                refine s_val rfl (v_neq rfl rfl) (s_val rfl (v_move rfl) ?_)
                refine s_and rfl rfl rfl ?_ ?_
                · intro g18_4
                  refine s_val rfl (v_loadAll Tryz.isAgg28 Tryz.sizeOf28 rfl rfl) ?_
                  refine s_yes rfl rfl ?_
                  refine s_val rfl (v_fieldAddr rfl Tryz.underlying28 rfl Tryz.sizeOf3 rfl (by first | exact Nat.zero_add _ | rfl)) ?_
                  refine s_yes rfl rfl (s_val rfl (v_load Tryz.isAgg3 rfl (cell_own rfl)) ?_)
                  refine s_yes rfl rfl (s_do rfl (d_call Tryz.call188 rfl (rcIsG_spec W0 _ c c.gate)) ?_)
                  rintro _ B_ ⟨rfl, hB_⟩
                  obtain rfl := hB_.symm
                  rw [hw1]
                  refine s_yes rfl rfl (s_val rfl (v_not rfl) (s_val rfl (v_pick_t rfl rfl) (s_val rfl (v_move rfl) ?_)))
                  refine s_or rfl rfl rfl ?_ ?_
                  · intro g18_11
                    refine s_no rfl rfl rfl rfl (s_no rfl rfl rfl rfl (s_val rfl (v_pick_t rfl rfl) (s_val rfl (v_move rfl) (s_no rfl rfl rfl rfl (s_no rfl rfl rfl rfl (s_no rfl rfl rfl rfl (s_val rfl (v_pick_t rfl rfl) (s_val rfl (v_move rfl) (s_no rfl rfl rfl rfl (s_no rfl rfl rfl rfl (s_no rfl rfl rfl rfl (s_no rfl rfl rfl rfl (s_nou rfl rfl rfl (s_nou rfl rfl rfl (s_nou rfl rfl rfl (s_no rfl rfl rfl rfl (s_val rfl (v_pick_t rfl rfl) (x_nil (n_then (x_ift rfl (x_seq (x_region (s_val rfl (v_assign rfl) ?_)))))))))))))))))))))))
                    refine s_val rfl (v_assign rfl) (x_nil (n_then (x_ret (r_then (x_done (.inl rfl) (.cons (r_tmp rfl) (.cons (r_tmp rfl) .nil)) ?_)))))
                    have hz : x6 = true := by
                      rw [hG]; split
                      · exact decide_eq_true (by first | omega | simp_all)
                      · first
                          | (rw [decide_eq_false (by omega), Bool.and_false]; rfl)
                          | simp_all
                    rw [hC, hz]
                    exact ⟨_, ⟨0, rfl, rfl⟩, inferInstance⟩
                  · intro g18_11
                    refine s_val rfl (v_fieldAddr rfl Tryz.underlying28 rfl Tryz.sizeOf3 rfl (by first | exact Nat.zero_add _ | rfl)) ?_
                    refine s_yes rfl rfl (s_val rfl (v_load Tryz.isAgg3 rfl (cell_own rfl)) ?_)
                    refine s_yes rfl rfl (s_val rfl (v_lss rfl rfl) (s_val rfl (v_pick_f rfl rfl) (s_val rfl (v_move rfl) ?_)))
                    refine s_or rfl rfl rfl ?_ ?_
                    · intro g18_16
                      refine s_no rfl rfl rfl rfl (s_no rfl rfl rfl rfl (s_val rfl (v_pick_t rfl rfl) (s_val rfl (v_move rfl) (s_no rfl rfl rfl rfl (s_no rfl rfl rfl rfl (s_no rfl rfl rfl rfl (s_no rfl rfl rfl rfl (s_nou rfl rfl rfl (s_nou rfl rfl rfl (s_nou rfl rfl rfl (s_no rfl rfl rfl rfl (s_val rfl (v_pick_t rfl rfl) (x_nil (n_then (x_ift rfl (x_seq (x_region (s_val rfl (v_assign rfl) (s_val rfl (v_assign rfl) (x_nil (n_then (x_ret (r_then ?_)))))))))))))))))))))))
                      refine x_done (.inl rfl) (.cons (r_tmp rfl) (.cons (r_tmp rfl) .nil)) ?_
                      have hz : x6 = true := by
                        rw [hG]; split
                        · exact decide_eq_true (by first | omega | simp_all)
                        · first
                            | (rw [decide_eq_false (by omega), Bool.and_false]; rfl)
                            | simp_all
                      rw [hC, hz]
                      exact ⟨_, ⟨0, rfl, rfl⟩, inferInstance⟩
                    · intro g18_16
                      refine s_val rfl (v_fieldAddr rfl Tryz.underlying28 rfl Tryz.sizeOf3 rfl (by first | exact Nat.zero_add _ | rfl)) ?_
                      refine s_yes rfl rfl (s_val rfl (v_load Tryz.isAgg3 rfl (cell_own rfl)) ?_)
                      refine s_yes rfl rfl (s_val rfl (v_gtr rfl rfl) (s_val rfl (v_pick_f rfl rfl) (s_val rfl (v_move rfl) ?_)))
                      refine s_or rfl rfl rfl ?_ ?_
                      · intro g18_21
                        refine s_no rfl rfl rfl rfl (s_no rfl rfl rfl rfl (s_no rfl rfl rfl rfl (s_nou rfl rfl rfl (s_nou rfl rfl rfl (s_nou rfl rfl rfl (s_no rfl rfl rfl rfl (s_val rfl (v_pick_t rfl rfl) (x_nil (n_then (x_ift rfl (x_seq (x_region (s_val rfl (v_assign rfl) (s_val rfl (v_assign rfl) (x_nil (n_then (x_ret (r_then (x_done (.inl rfl) (.cons (r_tmp rfl) (.cons (r_tmp rfl) .nil)) ?_)))))))))))))))))))
                        have hz : x6 = true := by
                          rw [hG]; split
                          · exact decide_eq_true (by first | omega | simp_all)
                          · first
                              | (rw [decide_eq_false (by omega), Bool.and_false]; rfl)
                              | simp_all
                        rw [hC, hz]
                        exact ⟨_, ⟨0, rfl, rfl⟩, inferInstance⟩
                      · intro g18_21
                        refine s_val rfl (v_fieldAddr rfl Tryz.underlying28 rfl Tryz.sizeOf3 rfl (by first | exact Nat.zero_add _ | rfl)) ?_
                        refine s_yes rfl rfl (s_val rfl (v_load Tryz.isAgg3 rfl (cell_own rfl)) ?_)
                        refine s_yes rfl rfl (s_val rfl (v_eql rfl rfl) (s_yes rfl rfl (s_val rfl (v_move rfl) ?_)))
                        refine s_and rfl rfl rfl ?_ ?_
                        · intro g18_25
                          refine s_val rfl (v_fieldAddr rfl Tryz.underlying28 rfl Tryz.sizeOf3 rfl (by first | exact Nat.zero_add _ | rfl)) ?_
                          refine s_yes rfl rfl (s_val rfl (v_load Tryz.isAgg3 rfl (cell_own rfl)) ?_)
                          refine s_yes rfl rfl (s_val rfl (v_neq rfl rfl) (s_yes rfl rfl (s_val rfl (v_pick_t rfl rfl) (s_val rfl (v_pick_f rfl rfl) (x_nil (n_then ?_))))))
                          refine x_if rfl ?_ ?_
                          · intro c18
                            refine x_seq (x_region (s_val rfl (v_assign rfl) (s_val rfl (v_assign rfl) (x_nil (n_then (x_ret (r_then (x_done (.inl rfl) (.cons (r_tmp rfl) (.cons (r_tmp rfl) .nil)) ?_))))))))
                            have hz : x6 = true := by
                              rw [hG]; split
                              · exact decide_eq_true (by first | omega | simp_all)
                              · first
                                  | (rw [decide_eq_false (by omega), Bool.and_false]; rfl)
                                  | simp_all
                            rw [hC, hz]
                            exact ⟨_, ⟨0, rfl, rfl⟩, inferInstance⟩
                          · intro c18
                            refine x_skip (n_then (x_seq (x_seq ?_)))
                            have hz : x6 = false := by
                              rw [hG]; split
                              · exact decide_eq_false (by first | omega | simp_all)
                              · rw [decide_eq_true (by omega)]; simp_all
                            rw [hz] at hC
                            have hgr : grW c = false := by rw [hx1]; simpa using c4
                            have hri : riW c = false := by rw [hx4]; simpa using c13
                            obtain ⟨k1, k2, k3⟩ := grW_no hgr
                            refine x_region (s_val rfl (v_loadAll Tryz.isAgg28 Tryz.sizeOf28 rfl rfl) ?_)
                            refine s_do rfl (d_call Tryz.call189 rfl (rcNeed_spec W0 _ c h.g (fun g hg => (k3 g hg).2) (riW_no hri) k2)) ?_
                            rintro _ B_ ⟨rfl, hB_⟩
                            obtain rfl := hB_.symm
                            refine s_val rfl (v_gtr rfl rfl) (x_nil (n_then ?_))
                            refine x_if rfl ?_ ?_
                            · intro c20
                              refine x_seq (x_region (s_val rfl (v_assign rfl) (s_val rfl (v_assign rfl) (x_nil (n_then (x_ret (r_then (x_done (.inl rfl) (.cons (r_tmp rfl) (.cons (r_tmp rfl) .nil)) ?_))))))))
                              rw [hC, if_neg (by decide), if_pos (by omega)]
                              exact ⟨_, ⟨0, rfl, rfl⟩, inferInstance⟩
                            · intro c20
                              refine x_skip (n_then (x_seq (x_region (s_val rfl (v_assign rfl) (s_val rfl (v_assign rfl) (x_nil (n_then (x_ret (x_done (.inl rfl) (.cons (r_tmp rfl) (.cons (r_tmp rfl) .nil)) ?_)))))))))
                              rw [hC, if_neg (by decide), if_neg (by omega)]
                              exact ⟨_, ⟨0, rfl, rfl⟩, inferInstance⟩
                        · intro g18_25
                          refine s_no rfl rfl rfl rfl (s_no rfl rfl rfl rfl (s_yes rfl rfl (s_val rfl (v_pick_f rfl rfl) (s_val rfl (v_pick_f rfl rfl) (x_nil (n_then (x_iff rfl (x_skip (n_then (x_seq (x_seq ?_)))))))))))
                          have hz : x6 = false := by
                            rw [hG]; split
                            · exact decide_eq_false (by first | omega | simp_all)
                            · rw [decide_eq_true (by omega)]; simp_all
                          rw [hz] at hC
                          have hgr : grW c = false := by rw [hx1]; simpa using c4
                          have hri : riW c = false := by rw [hx4]; simpa using c13
                          obtain ⟨k1, k2, k3⟩ := grW_no hgr
                          refine x_region (s_val rfl (v_loadAll Tryz.isAgg28 Tryz.sizeOf28 rfl rfl) ?_)
                          refine s_do rfl (d_call Tryz.call189 rfl (rcNeed_spec W0 _ c h.g (fun g hg => (k3 g hg).2) (riW_no hri) k2)) ?_
                          rintro _ B_ ⟨rfl, hB_⟩
                          obtain rfl := hB_.symm
                          refine s_val rfl (v_gtr rfl rfl) (x_nil (n_then ?_))
                          refine x_if rfl ?_ ?_
                          · intro c20
                            refine x_seq (x_region (s_val rfl (v_assign rfl) (s_val rfl (v_assign rfl) (x_nil (n_then (x_ret (r_then (x_done (.inl rfl) (.cons (r_tmp rfl) (.cons (r_tmp rfl) .nil)) ?_))))))))
                            rw [hC, if_neg (by decide), if_pos (by omega)]
                            exact ⟨_, ⟨0, rfl, rfl⟩, inferInstance⟩
                          · intro c20
                            refine x_skip (n_then (x_seq (x_region (s_val rfl (v_assign rfl) (s_val rfl (v_assign rfl) (x_nil (n_then (x_ret (x_done (.inl rfl) (.cons (r_tmp rfl) (.cons (r_tmp rfl) .nil)) ?_)))))))))
                            rw [hC, if_neg (by decide), if_neg (by omega)]
                            exact ⟨_, ⟨0, rfl, rfl⟩, inferInstance⟩
                · intro g18_4
                  refine s_no rfl rfl rfl rfl (s_no rfl rfl rfl rfl (s_no rfl rfl rfl rfl (s_no rfl rfl rfl rfl (s_val rfl (v_pick_f rfl rfl) (s_val rfl (v_move rfl) (s_yes rfl rfl ?_))))))
                  refine s_val rfl (v_fieldAddr rfl Tryz.underlying28 rfl Tryz.sizeOf3 rfl (by first | exact Nat.zero_add _ | rfl)) ?_
                  refine s_yes rfl rfl (s_val rfl (v_load Tryz.isAgg3 rfl (cell_own rfl)) ?_)
                  refine s_yes rfl rfl (s_val rfl (v_lss rfl rfl) (s_val rfl (v_pick_f rfl rfl) (s_val rfl (v_move rfl) ?_)))
                  refine s_or rfl rfl rfl ?_ ?_
                  · intro g18_16
                    refine s_no rfl rfl rfl rfl (s_no rfl rfl rfl rfl (s_val rfl (v_pick_t rfl rfl) (s_val rfl (v_move rfl) (s_no rfl rfl rfl rfl (s_no rfl rfl rfl rfl (s_no rfl rfl rfl rfl (s_no rfl rfl rfl rfl (s_nou rfl rfl rfl (s_nou rfl rfl rfl (s_nou rfl rfl rfl (s_no rfl rfl rfl rfl (s_val rfl (v_pick_t rfl rfl) (x_nil (n_then (x_ift rfl (x_seq (x_region (s_val rfl (v_assign rfl) (s_val rfl (v_assign rfl) (x_nil (n_then (x_ret (r_then ?_)))))))))))))))))))))))
                    refine x_done (.inl rfl) (.cons (r_tmp rfl) (.cons (r_tmp rfl) .nil)) ?_
                    have hz : x6 = true := by
                      rw [hG]; split
                      · exact decide_eq_true (by first | omega | simp_all)
                      · first
                          | (rw [decide_eq_false (by omega), Bool.and_false]; rfl)
                          | simp_all
                    rw [hC, hz]
                    exact ⟨_, ⟨0, rfl, rfl⟩, inferInstance⟩
                  · intro g18_16
                    refine s_val rfl (v_fieldAddr rfl Tryz.underlying28 rfl Tryz.sizeOf3 rfl (by first | exact Nat.zero_add _ | rfl)) ?_
                    refine s_yes rfl rfl (s_val rfl (v_load Tryz.isAgg3 rfl (cell_own rfl)) ?_)
                    refine s_yes rfl rfl (s_val rfl (v_gtr rfl rfl) (s_val rfl (v_pick_f rfl rfl) (s_val rfl (v_move rfl) ?_)))
                    refine s_or rfl rfl rfl ?_ ?_
                    · intro g18_21
                      refine s_no rfl rfl rfl rfl (s_no rfl rfl rfl rfl (s_no rfl rfl rfl rfl (s_nou rfl rfl rfl (s_nou rfl rfl rfl (s_nou rfl rfl rfl (s_no rfl rfl rfl rfl (s_val rfl (v_pick_t rfl rfl) (x_nil (n_then (x_ift rfl (x_seq (x_region (s_val rfl (v_assign rfl) (s_val rfl (v_assign rfl) (x_nil (n_then (x_ret (r_then (x_done (.inl rfl) (.cons (r_tmp rfl) (.cons (r_tmp rfl) .nil)) ?_)))))))))))))))))))
                      have hz : x6 = true := by
                        rw [hG]; split
                        · exact decide_eq_true (by first | omega | simp_all)
                        · first
                            | (rw [decide_eq_false (by omega), Bool.and_false]; rfl)
                            | simp_all
                      rw [hC, hz]
                      exact ⟨_, ⟨0, rfl, rfl⟩, inferInstance⟩
                    · intro g18_21
                      refine s_val rfl (v_fieldAddr rfl Tryz.underlying28 rfl Tryz.sizeOf3 rfl (by first | exact Nat.zero_add _ | rfl)) ?_
                      refine s_yes rfl rfl (s_val rfl (v_load Tryz.isAgg3 rfl (cell_own rfl)) ?_)
                      refine s_yes rfl rfl (s_val rfl (v_eql rfl rfl) (s_yes rfl rfl (s_val rfl (v_move rfl) ?_)))
                      refine s_and rfl rfl rfl ?_ ?_
                      · intro g18_25
                        refine s_val rfl (v_fieldAddr rfl Tryz.underlying28 rfl Tryz.sizeOf3 rfl (by first | exact Nat.zero_add _ | rfl)) ?_
                        refine s_yes rfl rfl (s_val rfl (v_load Tryz.isAgg3 rfl (cell_own rfl)) ?_)
                        refine s_yes rfl rfl (s_val rfl (v_neq rfl rfl) (s_yes rfl rfl (s_val rfl (v_pick_t rfl rfl) (s_val rfl (v_pick_f rfl rfl) (x_nil (n_then ?_))))))
                        refine x_if rfl ?_ ?_
                        · intro c18
                          refine x_seq (x_region (s_val rfl (v_assign rfl) (s_val rfl (v_assign rfl) (x_nil (n_then (x_ret (r_then (x_done (.inl rfl) (.cons (r_tmp rfl) (.cons (r_tmp rfl) .nil)) ?_))))))))
                          have hz : x6 = true := by
                            rw [hG]; split
                            · exact decide_eq_true (by first | omega | simp_all)
                            · first
                                | (rw [decide_eq_false (by omega), Bool.and_false]; rfl)
                                | simp_all
                          rw [hC, hz]
                          exact ⟨_, ⟨0, rfl, rfl⟩, inferInstance⟩
                        · intro c18
                          refine x_skip (n_then (x_seq (x_seq ?_)))
                          have hz : x6 = false := by
                            rw [hG]; split
                            · exact decide_eq_false (by first | omega | simp_all)
                            · rw [decide_eq_true (by omega)]; simp_all
                          rw [hz] at hC
                          have hgr : grW c = false := by rw [hx1]; simpa using c4
                          have hri : riW c = false := by rw [hx4]; simpa using c13
                          obtain ⟨k1, k2, k3⟩ := grW_no hgr
                          refine x_region (s_val rfl (v_loadAll Tryz.isAgg28 Tryz.sizeOf28 rfl rfl) ?_)
                          refine s_do rfl (d_call Tryz.call189 rfl (rcNeed_spec W0 _ c h.g (fun g hg => (k3 g hg).2) (riW_no hri) k2)) ?_
                          rintro _ B_ ⟨rfl, hB_⟩
                          obtain rfl := hB_.symm
                          refine s_val rfl (v_gtr rfl rfl) (x_nil (n_then ?_))
                          refine x_if rfl ?_ ?_
                          · intro c20
                            refine x_seq (x_region (s_val rfl (v_assign rfl) (s_val rfl (v_assign rfl) (x_nil (n_then (x_ret (r_then (x_done (.inl rfl) (.cons (r_tmp rfl) (.cons (r_tmp rfl) .nil)) ?_))))))))
                            rw [hC, if_neg (by decide), if_pos (by omega)]
                            exact ⟨_, ⟨0, rfl, rfl⟩, inferInstance⟩
                          · intro c20
                            refine x_skip (n_then (x_seq (x_region (s_val rfl (v_assign rfl) (s_val rfl (v_assign rfl) (x_nil (n_then (x_ret (x_done (.inl rfl) (.cons (r_tmp rfl) (.cons (r_tmp rfl) .nil)) ?_)))))))))
                            rw [hC, if_neg (by decide), if_neg (by omega)]
                            exact ⟨_, ⟨0, rfl, rfl⟩, inferInstance⟩
                      · intro g18_25
                        refine s_no rfl rfl rfl rfl (s_no rfl rfl rfl rfl (s_yes rfl rfl (s_val rfl (v_pick_f rfl rfl) (s_val rfl (v_pick_f rfl rfl) (x_nil (n_then (x_iff rfl (x_skip (n_then (x_seq (x_seq ?_)))))))))))
                        have hz : x6 = false := by
                          rw [hG]; split
                          · exact decide_eq_false (by first | omega | simp_all)
                          · rw [decide_eq_true (by omega)]; simp_all
                        rw [hz] at hC
                        have hgr : grW c = false := by rw [hx1]; simpa using c4
                        have hri : riW c = false := by rw [hx4]; simpa using c13
                        obtain ⟨k1, k2, k3⟩ := grW_no hgr
                        refine x_region (s_val rfl (v_loadAll Tryz.isAgg28 Tryz.sizeOf28 rfl rfl) ?_)
                        refine s_do rfl (d_call Tryz.call189 rfl (rcNeed_spec W0 _ c h.g (fun g hg => (k3 g hg).2) (riW_no hri) k2)) ?_
                        rintro _ B_ ⟨rfl, hB_⟩
                        obtain rfl := hB_.symm
                        refine s_val rfl (v_gtr rfl rfl) (x_nil (n_then ?_))
                        refine x_if rfl ?_ ?_
                        · intro c20
                          refine x_seq (x_region (s_val rfl (v_assign rfl) (s_val rfl (v_assign rfl) (x_nil (n_then (x_ret (r_then (x_done (.inl rfl) (.cons (r_tmp rfl) (.cons (r_tmp rfl) .nil)) ?_))))))))
                          rw [hC, if_neg (by decide), if_pos (by omega)]
                          exact ⟨_, ⟨0, rfl, rfl⟩, inferInstance⟩
                        · intro c20
                          refine x_skip (n_then (x_seq (x_region (s_val rfl (v_assign rfl) (s_val rfl (v_assign rfl) (x_nil (n_then (x_ret (x_done (.inl rfl) (.cons (r_tmp rfl) (.cons (r_tmp rfl) .nil)) ?_)))))))))
                          rw [hC, if_neg (by decide), if_neg (by omega)]
                          exact ⟨_, ⟨0, rfl, rfl⟩, inferInstance⟩
theorem rcRight_spec (W0 : World) (R : List HP) (c : Cfg) (h : CfOk W0 c) :
    Spec Tryz.prog W0 40 [.agg (cfgV c).toArray] R (fun v B => v = .bool (rt c) ∧ B = R) := by
  refine spec_body Tryz.func40 Tryz.ntmps40 rfl rfl ?_
  refine x_seq (x_region (s_do rfl (d_boxA rfl) ?_))
  rintro _ _ ⟨b1, rfl, rfl⟩
  refine s_val rfl (v_assign rfl) (x_nil (n_then (x_seq (x_region (s_val rfl (v_loadAll Tryz.isAgg28 Tryz.sizeOf28 rfl rfl) ?_)))))
  refine s_do rfl (d_call Tryz.call110 rfl (rcCheck_spec W0 _ c h)) ?_
  rintro _ B_ ⟨at_, rfl, hB_⟩
  obtain rfl := hB_.symm
  refine s_val rfl (v_move rfl) (s_val rfl (v_extract rfl rfl) (s_val rfl (v_extract rfl rfl) (s_val rfl (v_assign rfl) (s_val rfl (v_assign rfl) (x_nil (n_then (x_seq (x_region (s_val rfl (v_move rfl) (s_val rfl (v_eql rfl rfl) (s_val rfl (v_assign rfl) (x_nil (n_then (x_ret (x_done (.inl rfl) (.cons (r_tmp rfl) .nil) ?_)))))))))))))))
  refine ⟨_, ⟨?_, rfl⟩, inferInstance⟩
  refine congrArg Value.bool ?_
  rw [Bool.eq_iff_iff, rt]; simp
theorem rcRangeOf_spec (W0 : World) (R : List HP) (c : Cfg) (h : CfOk W0 c) (at_ : Int) (ha : at_ < 9223372036854775808) :
    Spec Tryz.prog W0 113 [.agg (cfgV c).toArray, .int .i64 at_] R (fun v B => v = .int .i64 (oIx (rgOf c at_)) ∧ B = R) := by
  obtain ⟨w, hw⟩ : ∃ w, rt c = w := ⟨_, rfl⟩
  have hO : rgOf c at_ = if w = true ∧ 0 ≤ at_ then fsO (inW c at_) c.rl.length else none := by rw [rgOf, hw]
  rw [hO]
  refine spec_body Tryz.func113 Tryz.ntmps113 rfl rfl ?_
  refine x_seq (x_region (s_do rfl (d_boxA rfl) ?_))
  rintro _ _ ⟨b2, rfl, rfl⟩
  refine s_val rfl (v_assign rfl) (x_nil (n_then (x_seq (x_seq (x_region (s_val rfl (v_loadAll Tryz.isAgg28 Tryz.sizeOf28 rfl rfl) ?_))))))
  refine s_do rfl (d_call Tryz.call40 rfl (rcRight_spec W0 _ c h)) ?_
  rintro _ B_ ⟨rfl, hB_⟩
  obtain rfl := hB_.symm
  rw [hw]
  refine s_val rfl (v_not rfl) (s_val rfl (v_move rfl) ?_)
  refine s_or rfl rfl rfl ?_ ?_
  · intro g1_4
    refine s_no rfl rfl rfl rfl (s_val rfl (v_pick_t rfl rfl) (x_nil (n_then (x_ift rfl (x_seq (x_region (s_val rfl (v_assign rfl) (x_nil (n_then (x_ret (r_then (x_done (.inl rfl) (.cons (r_tmp rfl) .nil) ?_))))))))))))
    rw [if_neg (by first | (rintro ⟨q1, q2⟩; omega) | (rintro ⟨q1, q2⟩; simp_all))]
    exact ⟨_, ⟨rfl, rfl⟩, inferInstance⟩
  · intro g1_4
    refine s_val rfl (v_move rfl) (s_yes rfl rfl (s_val rfl (v_lss rfl rfl) (s_val rfl (v_pick_f rfl rfl) (x_nil (n_then ?_)))))
    refine x_if rfl ?_ ?_
    · intro c1
      refine x_seq (x_region (s_val rfl (v_assign rfl) (x_nil (n_then (x_ret (r_then (x_done (.inl rfl) (.cons (r_tmp rfl) .nil) ?_)))))))
      rw [if_neg (by first | (rintro ⟨q1, q2⟩; omega) | (rintro ⟨q1, q2⟩; simp_all))]
      exact ⟨_, ⟨rfl, rfl⟩, inferInstance⟩
    · intro c1
      refine x_skip (n_then (x_seq (x_seq ?_)))
      have hw1 : w = true := by
        cases w with
        | true => rfl
        | false => exfalso; simp_all
      have hat : 0 ≤ at_ := by omega
      rw [if_pos ⟨hw1, hat⟩]
      have hk := rt_yes (hw.trans hw1)
      obtain ⟨k1, k2⟩ := raW_no hk.2.2.2.1
      refine x_region (s_val rfl (v_assign rfl) (x_nil (n_then (x_block ?_))))
      refine x_loop (fun i : Nat => i ≤ c.rl.length ∧ ∀ j, j < i → inW c at_ j = false) (fun i => [(1, .int .i64 at_), (2, .pointer (some ⟨b2, 0, none⟩)), (5, .int .i64 i)]) (fun _ => pt b2 (cfO c) :: R) (fun i => c.rl.length - i) 0 ?_ ?_ ?_ ?_
      · exact ⟨Nat.zero_le _, fun j hj => absurd hj (Nat.not_lt_zero _)⟩
      · repeat (first | exact sub_nil | refine sub_cons rfl ?_)
      · exact inferInstance
      · intro i ⟨hi, hI⟩
        refine x_seq (x_seq (x_region (s_val rfl (v_move rfl) ?_)))
        refine s_val rfl (v_fieldAddr rfl Tryz.underlying28 rfl Tryz.sizeOf23 rfl (by first | exact Nat.zero_add _ | rfl)) ?_
        refine s_val rfl (v_load Tryz.isAgg23 rfl (cell_own rfl)) ?_
        refine s_val rfl (v_len_slice Tryz.underlying23 rfl) (s_val rfl (v_lss rfl rfl) (x_nil (n_then ?_)))
        refine x_if rfl ?_ ?_
        · intro c4
          refine x_skip (n_then (x_seq (x_block (x_seq ?_))))
          have hi1 : i < c.rl.length := by omega
          obtain ⟨g, o, hga, hc⟩ := (h.r []).at_ hi1
          obtain ⟨x, hx⟩ : ∃ x, c.rl[i] = x := ⟨_, rfl⟩
          have hA : rlA c i = x := by simp [rlA, List.getD, hi1, hx]
          have hbx := (k2 _ (List.getElem_mem hi1)).2
          rw [hx] at hc hbx
          have hW : inW c at_ i = decide (x.2.1 ≤ at_ ∧ at_ - x.2.1 < x.2.2) := by rw [inW, hA]
          refine x_draw [(b2, 0, cfgV c), (g, o + i * 3, gsV x)] 25 mixed rfl (sc_own (sc_cons hc.weak sc_end)) (fun hS => ?_)
          refine d_take 0 rfl rfl (by kernel_rfl) (by kernel_rfl) (by kernel_rfl) rfl hS (v_move rfl) ?_
          refine d_take 1 rfl rfl (by kernel_rfl) (by kernel_rfl) (by kernel_rfl) rfl hS (v_fieldAddr rfl Tryz.underlying28 rfl Tryz.sizeOf23 rfl (by first | exact Nat.zero_add _ | rfl)) ?_
          refine d_take 2 rfl rfl (by kernel_rfl) (by kernel_rfl) (by kernel_rfl) rfl hS (v_load Tryz.isAgg23 rfl (by first | exact cell_sc0 (k := 0) rfl rfl | exact cell_sc0 (k := 1) rfl rfl)) ?_
          refine d_take 3 rfl rfl (by kernel_rfl) (by kernel_rfl) (by kernel_rfl) rfl hS (v_move rfl) ?_
          refine d_take 4 rfl rfl (by kernel_rfl) (by kernel_rfl) (by kernel_rfl) rfl hS (v_idxA Tryz.underlying23 Tryz.sizeOf151 rfl hga rfl rfl hi1 (by first | exact Nat.zero_add _ | rfl)) ?_
          refine d_take 5 rfl rfl (by kernel_rfl) (by kernel_rfl) (by kernel_rfl) rfl hS (v_fieldAddr rfl Tryz.underlying151 rfl Tryz.sizeOf3 rfl (by first | exact Nat.zero_add _ | rfl)) ?_
          refine d_take 6 rfl rfl (by kernel_rfl) (by kernel_rfl) (by kernel_rfl) rfl hS (v_load Tryz.isAgg3 rfl (cell_sc (k := 1) (j := 1) rfl rfl)) ?_
          refine d_take 7 rfl rfl (by kernel_rfl) (by kernel_rfl) (by kernel_rfl) rfl hS (v_geq rfl rfl) ?_
          refine d_take 8 rfl rfl (by kernel_rfl) (by kernel_rfl) (by kernel_rfl) rfl hS (v_move rfl) ?_
          refine x_split (t := 28) rfl ?_ ?_
          · intro g6_9
            refine d_take 9 rfl rfl (by kernel_rfl) (by kernel_rfl) (by kernel_rfl) rfl hS (v_move rfl) ?_
            refine d_take 10 rfl rfl (by kernel_rfl) (by kernel_rfl) (by kernel_rfl) rfl hS (v_fieldAddr rfl Tryz.underlying28 rfl Tryz.sizeOf23 rfl (by first | exact Nat.zero_add _ | rfl)) ?_
            refine d_take 11 rfl rfl (by kernel_rfl) (by kernel_rfl) (by kernel_rfl) rfl hS (v_load Tryz.isAgg23 rfl (by first | exact cell_sc0 (k := 0) rfl rfl | exact cell_sc0 (k := 1) rfl rfl)) ?_
            refine d_take 12 rfl rfl (by kernel_rfl) (by kernel_rfl) (by kernel_rfl) rfl hS (v_move rfl) ?_
            refine d_take 13 rfl rfl (by kernel_rfl) (by kernel_rfl) (by kernel_rfl) rfl hS (v_idxA Tryz.underlying23 Tryz.sizeOf151 rfl hga rfl rfl hi1 (by first | exact Nat.zero_add _ | rfl)) ?_
            refine d_take 14 rfl rfl (by kernel_rfl) (by kernel_rfl) (by kernel_rfl) rfl hS (v_fieldAddr rfl Tryz.underlying151 rfl Tryz.sizeOf3 rfl (by first | exact Nat.zero_add _ | rfl)) ?_
            refine d_take 15 rfl rfl (by kernel_rfl) (by kernel_rfl) (by kernel_rfl) rfl hS (v_load Tryz.isAgg3 rfl (cell_sc (k := 1) (j := 1) rfl rfl)) ?_
            refine d_take 16 rfl rfl (by kernel_rfl) (by kernel_rfl) (by kernel_rfl) rfl hS (v_sub rfl rfl (w64 (by omega))) ?_
            refine d_take 17 rfl rfl (by kernel_rfl) (by kernel_rfl) (by kernel_rfl) rfl hS (v_fieldAddr rfl Tryz.underlying28 rfl Tryz.sizeOf23 rfl (by first | exact Nat.zero_add _ | rfl)) ?_
            refine d_take 18 rfl rfl (by kernel_rfl) (by kernel_rfl) (by kernel_rfl) rfl hS (v_load Tryz.isAgg23 rfl (by first | exact cell_sc0 (k := 0) rfl rfl | exact cell_sc0 (k := 1) rfl rfl)) ?_
            refine d_take 19 rfl rfl (by kernel_rfl) (by kernel_rfl) (by kernel_rfl) rfl hS (v_move rfl) ?_
            refine d_take 20 rfl rfl (by kernel_rfl) (by kernel_rfl) (by kernel_rfl) rfl hS (v_idxA Tryz.underlying23 Tryz.sizeOf151 rfl hga rfl rfl hi1 (by first | exact Nat.zero_add _ | rfl)) ?_
            refine d_take 21 rfl rfl (by kernel_rfl) (by kernel_rfl) (by kernel_rfl) rfl hS (v_fieldAddr rfl Tryz.underlying151 rfl Tryz.sizeOf3 rfl (by first | exact Nat.zero_add _ | rfl)) ?_
            refine d_take 22 rfl rfl (by kernel_rfl) (by kernel_rfl) (by kernel_rfl) rfl hS (v_load Tryz.isAgg3 rfl (cell_sc (k := 1) (j := 2) rfl rfl)) ?_
            refine d_take 23 rfl rfl (by kernel_rfl) (by kernel_rfl) (by kernel_rfl) rfl hS (v_lss rfl rfl) ?_
            refine d_take 24 rfl rfl (by kernel_rfl) (by kernel_rfl) (by kernel_rfl) rfl hS (v_pick_t rfl rfl) ?_
            refine d_done (by kernel_rfl) ?_; clear hS
            refine n_then ?_
            refine x_if rfl ?_ ?_
            · intro c6
              refine x_seq (x_region (s_val rfl (v_move rfl) (s_val rfl (v_assign rfl) (x_nil (n_then (x_ret (r_block (r_then (r_then (r_block (r_then (x_done (.inl rfl) (.cons (r_tmp rfl) .nil) ?_))))))))))))
              rw [fsO_at hi1 (by rw [hW]; exact decide_eq_true (by omega)) hI]
              exact ⟨_, ⟨rfl, rfl⟩, inferInstance⟩
            · intro c6
              refine x_skip (n_block (n_then (x_region (s_val rfl (v_move rfl) ?_))))
              refine s_val rfl (v_add rfl rfl (by first | exact w64 (by omega) | rfl)) ?_
              refine s_val rfl (v_assign rfl) (x_nil (n_then ?_))
              refine inv_intro (i + 1) ?_ ?_ ?_ ?_
              · exact ⟨by omega, any_next hI (by rw [hW]; exact decide_eq_false (by omega))⟩
              · omega
              · repeat (first | exact sub_nil | refine sub_cons rfl ?_)
              · exact inferInstance
          · intro g6_9
            refine d_skip 9 rfl rfl (by kernel_rfl) (by kernel_rfl) (by kernel_rfl) rfl hS ?_
            refine d_skip 10 rfl rfl (by kernel_rfl) (by kernel_rfl) (by kernel_rfl) rfl hS ?_
            refine d_skip 11 rfl rfl (by kernel_rfl) (by kernel_rfl) (by kernel_rfl) rfl hS ?_
            refine d_skip 12 rfl rfl (by kernel_rfl) (by kernel_rfl) (by kernel_rfl) rfl hS ?_
            refine d_skip 13 rfl rfl (by kernel_rfl) (by kernel_rfl) (by kernel_rfl) rfl hS ?_
            refine d_skip 14 rfl rfl (by kernel_rfl) (by kernel_rfl) (by kernel_rfl) rfl hS ?_
            refine d_skip 15 rfl rfl (by kernel_rfl) (by kernel_rfl) (by kernel_rfl) rfl hS ?_
            refine d_skip 16 rfl rfl (by kernel_rfl) (by kernel_rfl) (by kernel_rfl) rfl hS ?_
            refine d_skip 17 rfl rfl (by kernel_rfl) (by kernel_rfl) (by kernel_rfl) rfl hS ?_
            refine d_skip 18 rfl rfl (by kernel_rfl) (by kernel_rfl) (by kernel_rfl) rfl hS ?_
            refine d_skip 19 rfl rfl (by kernel_rfl) (by kernel_rfl) (by kernel_rfl) rfl hS ?_
            refine d_skip 20 rfl rfl (by kernel_rfl) (by kernel_rfl) (by kernel_rfl) rfl hS ?_
            refine d_skip 21 rfl rfl (by kernel_rfl) (by kernel_rfl) (by kernel_rfl) rfl hS ?_
            refine d_skip 22 rfl rfl (by kernel_rfl) (by kernel_rfl) (by kernel_rfl) rfl hS ?_
            refine d_skip 23 rfl rfl (by kernel_rfl) (by kernel_rfl) (by kernel_rfl) rfl hS ?_
            refine d_take 24 rfl rfl (by kernel_rfl) (by kernel_rfl) (by kernel_rfl) rfl hS (v_pick_f rfl rfl) ?_
            refine d_done (by kernel_rfl) ?_; clear hS
            refine n_then (x_iff rfl (x_skip (n_block (n_then (x_region (s_val rfl (v_move rfl) ?_))))))
            refine s_val rfl (v_add rfl rfl (by first | exact w64 (by omega) | rfl)) ?_
            refine s_val rfl (v_assign rfl) (x_nil (n_then ?_))
            refine inv_intro (i + 1) ?_ ?_ ?_ ?_
            · exact ⟨by omega, any_next hI (by rw [hW]; exact decide_eq_false (by omega))⟩
            · omega
            · repeat (first | exact sub_nil | refine sub_cons rfl ?_)
            · exact inferInstance
        · intro c4
          refine x_exit (e_then (e_then (e_block (n_then (x_seq (x_region (s_val rfl (v_assign rfl) (x_nil (n_then (x_ret (x_done (.inl rfl) (.cons (r_tmp rfl) .nil) ?_)))))))))))
          obtain rfl : i = c.rl.length := by omega
          rw [fsO_none hI]
          exact ⟨_, ⟨rfl, rfl⟩, inferInstance⟩
end Go.Proofs.YtncegikenkpcmaaGreat
namespace Go.Proofs.YtncegikenkpcmaaGreat
open Go.RowKit
set_option linter.unusedSimpArgs false
set_option linter.unusedVariables false
section
variable {rd : Option Nat} {P : Program} {S : World → Prop} {W0 : World} {N : FSz} {e : Env} {A B R : List HP}
variable {op : Op} {ty t K E : TypeId} {v z : Value} {b : Nat} {x y u : Operand} {f : Int → Option Value} {k : Int}
end
end Go.Proofs.YtncegikenkpcmaaGreat
namespace Go.Proofs.YtncegikenkpcmaaGreat
open Go.RowKit
set_option linter.unusedSimpArgs false
set_option linter.unusedVariables false
section
variable {P : Program} {S : World → Prop} {W0 : World} {N : FSz} {e : Env} {A R : List HP} {t t' ty : TypeId} {b off : Nat} {x y : Operand} {l l' : List Value}
theorem d_copyStr {E sz dn dc m : Nat} {s : ByteArray} (hu : P.underlying t = some (.slice E)) (hs : ∀ w, (sizeOf E).run P w = .ok sz w) (hx : ev e x = some (.slice (some ⟨b, off, none⟩) dn dc)) (hy : ev e y = some (.string s))
    [h : Tk pt b A (cob l ty) R] (hm : Nat.min s.size dn = m) (ho : off + m ≤ l.length) (hr : setR l off ((s.data.toList.take m).map fun b => Value.int .u8 b.toNat) = l') :
    Does P W0 N e A (.call { callee := .builtin .copy, args := #[x, y], argTypes := #[t, t'] }) (fun v B => v = .int .i64 m ∧ B = pt b (cob l' ty) :: R) := by
  intro a w dst ty' pos af g K Q hF hO k
  have hO' := hO.tk (r := pt) (b := b)
  have hml : m ≤ s.data.toList.length := by
    have : m ≤ s.size := by rw [← hm]; exact Nat.min_le_left ..
    exact this
  have hcells : ((s.extract 0 m).data.map fun b => Value.int .u8 b.toNat).toList = (s.data.toList.take m).map fun b => Value.int .u8 b.toNat := by
    simp [ByteArray.data_extract, List.extract_eq_take_drop]
  obtain ⟨w', hst, hO''⟩ := storeCells_own (P := P) (off := off) ((s.data.toList.take m).map fun b => Value.int .u8 b.toNat) 0 hO' (by rw [List.length_map, List.length_take]; omega) (fun v hv => by
    obtain ⟨q, _, rfl⟩ := List.mem_map.1 hv; rfl)
  rw [Nat.add_zero, hr] at hO''
  have hexec : (execOp a.eval { dst := dst, op := .call { callee := .builtin .copy, args := #[x, y], argTypes := #[t, t'] }, type := ty', pos := pos, after := af, guard := g }).run P w = .ok (.value (.int .i64 m)) w' := by
    simp only [execOp, resolve, invoke, builtin, Sem.run_bind, Sem.run_pure, Result.andThen_ok, List.map_toArray, List.map_cons, List.map_nil, hF.eval hx, hF.eval hy, Builtin.copy_, Builtin.lenOf, Builtin.firstCells, run_und hu, hs]
    have hs' : (sizeOf E).run P w = .ok sz w := hs w
    simp only [hm, Array.getElem?_eq_getElem, List.getElem?_toArray, List.getElem?_cons_zero, List.getElem?_cons_succ, Sem.run_bind, Sem.run_pure, Result.andThen_ok, run_und hu, hs', hcells, hst, goInt]
  unfold Oper.wp
  rw [hexec]
  exact k _ w' _ ⟨rfl, rfl⟩ hO''
end
end Go.Proofs.YtncegikenkpcmaaGreat
namespace Go.Proofs.YtncegikenkpcmaaGreat
set_option linter.unusedSimpArgs false
set_option linter.unusedVariables false
def bV (b : Nat) : Value := .int .u8 (b : Int)
def byV (l : List Nat) : List Value := l.map bV
theorem byV_len (l : List Nat) : (byV l).length = l.length := by simp [byV]
theorem byV_append (a b : List Nat) : byV (a ++ b) = byV a ++ byV b := by simp [byV]
def By (l : List Nat) : Prop := ∀ b ∈ l, b < 256
theorem By.get {l : List Nat} (h : By l) {i : Nat} (hi : i < l.length) : l[i] < 256 := h _ (List.getElem_mem hi)
def leN : List Nat → Nat
  | [] => 0
  | b :: bs => b + 256 * leN bs
theorem By.take {l : List Nat} (h : By l) (i : Nat) : By (l.take i) := fun b hb => h b (List.mem_of_mem_take hb)
theorem By.drop {l : List Nat} (h : By l) (i : Nat) : By (l.drop i) := fun b hb => h b (List.mem_of_mem_drop hb)
theorem By.append {a b : List Nat} (h : By a) (k : By b) : By (a ++ b) := fun x hx => by
  rcases List.mem_append.1 hx with h' | h'
  · exact h x h'
  · exact k x h'
def inB (n : Nat) (at_ w : Int) : Bool := decide ((w = 1 ∨ w = 2 ∨ w = 4) ∧ 0 ≤ at_ ∧ at_ ≤ n ∧ w ≤ n - at_)
end Go.Proofs.YtncegikenkpcmaaGreat
namespace Go.Proofs.YtncegikenkpcmaaGreat
open Go.RowKit
set_option linter.unusedSimpArgs false
set_option linter.unusedVariables false
set_option maxRecDepth 20000
theorem Cells.part {S : World → Prop} {b off : Nat} {l : List Nat} (h : Cells S b off (byV l)) (i k : Nat) (hik : i + k ≤ l.length) : Cells S b (off + i) (byV ((l.drop i).take k)) := fun j v hv => by
  have hj : j < k := by
    rcases Nat.lt_or_ge j k with q | q
    · exact q
    · rw [List.getElem?_eq_none (by rw [byV_len, List.length_take]; omega)] at hv; cases hv
  have := h (i + j) v (by
    rw [byV, List.getElem?_map, List.getElem?_take_of_lt hj, List.getElem?_drop] at hv
    rw [byV, List.getElem?_map]; exact hv)
  rwa [← Nat.add_assoc] at this
def getN (l : List Nat) (at_ w : Int) : Nat := if inB l.length at_ w then leN ((l.drop at_.toNat).take w.toNat) else 0
end Go.Proofs.YtncegikenkpcmaaGreat
namespace Go.Proofs.YtncegikenkpcmaaGreat
open Go.RowKit
set_option linter.unusedSimpArgs false
set_option linter.unusedVariables false
set_option maxRecDepth 20000
end Go.Proofs.YtncegikenkpcmaaGreat
namespace Go.Proofs.YtncegikenkpcmaaGreat
open Go.RowKit
set_option linter.unusedSimpArgs false
set_option linter.unusedVariables false
set_option maxRecDepth 20000
abbrev Frm := List Nat
def Frs (fr : List Frm) : Prop := ∀ x ∈ fr, x.length = 64 ∧ By x
theorem Frs.get {fr : List Frm} (h : Frs fr) {f : Nat} (hf : f < fr.length) : (fr.getD f []).length = 64 ∧ By (fr.getD f []) := by
  have : fr.getD f [] = fr[f] := by simp [List.getD, hf]
  rw [this]; exact h _ (List.getElem_mem hf)
theorem Frs.set {fr : List Frm} (h : Frs fr) {f : Nat} {y : Frm} (hy : y.length = 64 ∧ By y) : Frs (fr.set f y) := fun x hx => by
  rcases List.mem_or_eq_of_mem_set hx with h' | rfl
  · exact h x h'
  · exact hy
def zeros : Frm := List.replicate 64 0
theorem zeros_ok : zeros.length = 64 ∧ By zeros := ⟨by simp [zeros], fun b hb => by have := List.eq_of_mem_replicate hb; omega⟩
theorem Frs.new (n : Nat) : Frs (List.replicate n zeros) := fun x hx => by rw [List.eq_of_mem_replicate hx]; exact zeros_ok
section
variable {P : Program} {W0 : World} {N : FSz} {K : Act → World → Prop} {e : Env} {A B R R1 R2 : List HP} {ps g n : Nat} {fr : List Frm} {f : FuncId} {args : List Value} {Post : Value → List HP → Prop} {l : List Value}
end
def isF (n : Nat) (f : Int) : Bool := decide (0 ≤ f ∧ f < n)
def ldN (fr : List Frm) (f off w : Int) : Nat := if isF fr.length f then getN (fr.getD f.toNat []) off w else 0
end Go.Proofs.YtncegikenkpcmaaGreat
namespace Go.Proofs.YtncegikenkpcmaaGreat
open Go.RowKit
set_option linter.unusedSimpArgs false
set_option linter.unusedVariables false
set_option maxRecDepth 20000
abbrev Pl := Int × Int
def plAt (pg : List Pl) (n : Nat) : Pl := pg.getD n (0, 0)
def isP (n : Int) : Bool := decide (0 ≤ n ∧ n < 12)
def thereB (pg : List Pl) (n : Int) : Bool := isP n && decide (plAt pg n.toNat ≠ (0, 0))
def gGot (pg : List Pl) (n : Int) : Pl := if thereB pg n then plAt pg n.toNat else (0, 0)
end Go.Proofs.YtncegikenkpcmaaGreat
namespace Go.Proofs.YtncegikenkpcmaaGreat
open Go.RowKit
set_option linter.unusedSimpArgs false
set_option linter.unusedVariables false
set_option maxRecDepth 20000
end Go.Proofs.YtncegikenkpcmaaGreat
namespace Go.Proofs.YtncegikenkpcmaaGreat
open Go.RowKit
set_option linter.unusedSimpArgs false
set_option linter.unusedVariables false
set_option maxRecDepth 20000
end Go.Proofs.YtncegikenkpcmaaGreat
namespace Go.Proofs.YtncegikenkpcmaaGreat
open Go.RowKit
set_option linter.unusedSimpArgs false
set_option linter.unusedVariables false
set_option maxRecDepth 20000
def frmB (len : Nat) (pg : List Pl) (n : Int) : Bool := thereB pg n && decide (n < 8) && decide ((gGot pg n).1 < len)
end Go.Proofs.YtncegikenkpcmaaGreat
namespace Go.Proofs.YtncegikenkpcmaaGreat
open Go.RowKit
set_option linter.unusedSimpArgs false
set_option linter.unusedVariables false
set_option maxRecDepth 20000
end Go.Proofs.YtncegikenkpcmaaGreat
namespace Go.Proofs.YtncegikenkpcmaaGreat
open Go.RowKit
set_option linter.unusedSimpArgs false
set_option linter.unusedVariables false
set_option maxRecDepth 20000
def pgI (a : Nat) : Int := ((a / 64 : Nat) : Int)
def ownA (len : Nat) (pg : List Pl) (pa n : Nat) : Prop := ∀ i, i < n → frmB len pg (pgI (pa + i)) = true
instance {len : Nat} {pg : List Pl} {pa n : Nat} : Decidable (ownA len pg pa n) := by unfold ownA; exact Nat.decidableBallLT n _
def ownB (len : Nat) (pg : List Pl) (pa : Nat) (n : Int) : Bool := decide (0 ≤ n ∧ pa ≤ 512 ∧ n ≤ 512 - (pa : Int)) && decide (ownA len pg pa n.toNat)
end Go.Proofs.YtncegikenkpcmaaGreat
namespace Go.Proofs.YtncegikenkpcmaaGreat
open Go.RowKit
set_option linter.unusedSimpArgs false
set_option linter.unusedVariables false
set_option maxRecDepth 20000
def whr (pg : List Pl) (a : Nat) : Int := (gGot pg (pgI a)).1
end Go.Proofs.YtncegikenkpcmaaGreat
namespace Go.Proofs.YtncegikenkpcmaaGreat
open Go.RowKit
set_option linter.unusedSimpArgs false
set_option linter.unusedVariables false
set_option maxRecDepth 20000
def rdv (fr : List Frm) (pg : List Pl) (a : Nat) : Nat := ldN fr (whr pg a) ((a % 64 : Nat) : Int) 1
def rdL (fr : List Frm) (pg : List Pl) (pa n : Nat) : List Nat := (List.range n).map fun i => rdv fr pg (pa + i)
end Go.Proofs.YtncegikenkpcmaaGreat
namespace Go.Proofs.YtncegikenkpcmaaGreat
open Go.RowKit
set_option linter.unusedSimpArgs false
set_option linter.unusedVariables false
set_option maxRecDepth 20000
def wV (w : Nat) : Value := .int .u32 (w : Int)
def wdAt (l : List Nat) (i : Nat) : Nat := leN ((l.drop (4 * i)).take 4)
structure Dsc where
  addr : Nat
  len : Nat
  flags : Nat
  next : Nat
structure Dsc.ok (d : Dsc) : Prop where
  addr : d.addr < 4294967296
  len : d.len < 4294967296
  flags : d.flags < 4294967296
  next : d.next < 4294967296
def dsOf (l : List Nat) : Dsc := ⟨wdAt l 0, wdAt l 1, wdAt l 2, wdAt l 3⟩
def zD : Dsc := ⟨0, 0, 0, 0⟩
def chkC (d : Dsc) (n : Nat) : Int := if 4 ≤ d.flags then 3 else if 64 < d.len then 4 else if d.flags % 2 = 1 ∧ n ≤ d.next then 1 else 0
structure Rg3 where
  desc : Nat
  avail : Nat
  used : Nat
  n : Int
structure Rg3.ok (r : Rg3) : Prop where
  desc : r.desc < 4294967296
  avail : r.avail < 4294967296
  used : r.used < 4294967296
end Go.Proofs.YtncegikenkpcmaaGreat
namespace Go.Proofs.YtncegikenkpcmaaGreat
open Go.RowKit
set_option linter.unusedSimpArgs false
set_option linter.unusedVariables false
set_option maxRecDepth 20000
def wrB (d : Dsc) : Bool := decide (d.flags / 2 % 2 = 1)
def goB (d : Dsc) : Bool := decide (d.flags % 2 = 1)
def dsPa (r : Rg3) (at_ : Nat) : Nat := (r.desc + 16 * at_) % 4294967296
def dsAt (fr : List Frm) (pg : List Pl) (r : Rg3) (at_ : Nat) : Dsc := if ownB fr.length pg (dsPa r at_) 16 then dsOf (rdL fr pg (dsPa r at_) 16) else zD
def lk (fr : List Frm) (pg : List Pl) (r : Rg3) (at_ : Int) (n : Nat) (wr : Bool) : Dsc × Int :=
  if at_ < 0 ∨ r.n ≤ at_ then (zD, 1) else if r.n ≤ (n : Int) then (zD, 2) else
  if ownB fr.length pg (dsPa r at_.toNat) 16 = false then (zD, 5) else
  if chkC (dsAt fr pg r at_.toNat) r.n.toNat ≠ 0 then (zD, chkC (dsAt fr pg r at_.toNat) r.n.toNat) else
  if ownB fr.length pg (dsAt fr pg r at_.toNat).addr (dsAt fr pg r at_.toNat).len = false then (zD, 5) else
  if wr = true ∧ wrB (dsAt fr pg r at_.toNat) = false then (zD, 6) else (dsAt fr pg r at_.toNat, 0)
end Go.Proofs.YtncegikenkpcmaaGreat
namespace Go.Proofs.YtncegikenkpcmaaGreat
open Go.RowKit
set_option linter.unusedSimpArgs false
set_option linter.unusedVariables false
set_option maxRecDepth 20000
abbrev WkS := Int × Bool × List Dsc
def lkS (fr : List Frm) (pg : List Pl) (r : Rg3) (n : Nat) (x : WkS) : Dsc × Int := lk fr pg r x.1 n x.2.1
def wkSt (fr : List Frm) (pg : List Pl) (r : Rg3) (head : Int) : Nat → WkS
  | 0 => (head, false, [])
  | n + 1 => let d := (lkS fr pg r n (wkSt fr pg r head n)).1; ((d.next : Int), wrB d, (wkSt fr pg r head n).2.2 ++ [d])
abbrev lkN (fr : List Frm) (pg : List Pl) (r : Rg3) (head : Int) (n : Nat) : Dsc × Int := lkS fr pg r n (wkSt fr pg r head n)
def alive (fr : List Frm) (pg : List Pl) (r : Rg3) (head : Int) (n : Nat) : Prop := ∀ m, m < n → (lkN fr pg r head m).2 = 0 ∧ goB (lkN fr pg r head m).1 = true
theorem alive.succ {fr : List Frm} {pg : List Pl} {r : Rg3} {head : Int} {n : Nat} (h : alive fr pg r head n) (h1 : (lkN fr pg r head n).2 = 0) (h2 : goB (lkN fr pg r head n).1 = true) : alive fr pg r head (n + 1) := fun m hm => by
  rcases Nat.lt_or_ge m n with q | q
  · exact h m q
  · rw [show m = n by omega]; exact ⟨h1, h2⟩
section
variable {W0 : World} {N : FSz} {K : Act → World → Prop} {e : Env} {A R R1 R2 : List HP} {b n c : Nat} {l : List Dsc} {a : Option Addr} {ys : List Value}
end
end Go.Proofs.YtncegikenkpcmaaGreat
namespace Go.Proofs.YtncegikenkpcmaaGreat
open Go.RowKit
set_option linter.unusedSimpArgs false
set_option linter.unusedVariables false
set_option maxRecDepth 20000
section
variable {P : Program} {W0 : World} {N : FSz} {K : Act → World → Prop} {e : Env} {A B R R1 R2 : List HP} {qs g n : Nat} {fr : List Frm} {f : FuncId} {args : List Value} {Post : Value → List HP → Prop} {l : List Value}
theorem perm_erase {α : Type} : ∀ (l : List α) (i : Nat) (h : i < l.length), l.Perm (l[i] :: l.eraseIdx i)
  | x :: l, 0, h => by simp
  | x :: l, i + 1, h => by
    simp only [List.getElem_cons_succ, List.eraseIdx_cons_succ]
    exact ((perm_erase l i (by simpa using h)).cons x).trans (List.Perm.swap _ _ _)
end
end Go.Proofs.YtncegikenkpcmaaGreat
namespace Go.Proofs.YtncegikenkpcmaaGreat
open Go.RowKit
set_option linter.unusedSimpArgs false
set_option linter.unusedVariables false
set_option maxRecDepth 20000
end Go.Proofs.YtncegikenkpcmaaGreat
namespace Go.Proofs.YtncegikenkpcmaaGreat
open Go.RowKit
set_option linter.unusedSimpArgs false
set_option linter.unusedVariables false
set_option maxRecDepth 20000
end Go.Proofs.YtncegikenkpcmaaGreat
namespace Go.Proofs.YtncegikenkpcmaaGreat
open Go.RowKit
set_option linter.unusedSimpArgs false
set_option linter.unusedVariables false
set_option maxRecDepth 20000
end Go.Proofs.YtncegikenkpcmaaGreat
namespace Go.Proofs.YtncegikenkpcmaaGreat
open Go.RowKit
set_option linter.unusedSimpArgs false
set_option linter.unusedVariables false
set_option maxRecDepth 20000
end Go.Proofs.YtncegikenkpcmaaGreat
namespace Go.Proofs.YtncegikenkpcmaaGreat
open Go.RowKit
set_option linter.unusedSimpArgs false
set_option linter.unusedVariables false
set_option maxRecDepth 20000
end Go.Proofs.YtncegikenkpcmaaGreat
namespace Go.Proofs.YtncegikenkpcmaaGreat
open Go.RowKit
set_option linter.unusedSimpArgs false
set_option linter.unusedVariables false
set_option maxRecDepth 20000
end Go.Proofs.YtncegikenkpcmaaGreat
namespace Go.Proofs.YtncegikenkpcmaaGreat
open Go.RowKit
set_option linter.unusedSimpArgs false
set_option linter.unusedVariables false
set_option maxRecDepth 20000
end Go.Proofs.YtncegikenkpcmaaGreat
namespace Go.Proofs.YtncegikenkpcmaaGreat
open Go.RowKit
set_option linter.unusedSimpArgs false
set_option linter.unusedVariables false
theorem byV_flat : ∀ bs : List Nat, bs.flatMap (fun x => [bV x]) = byV bs
  | [] => rfl
  | b :: l => by rw [List.flatMap_cons, byV_flat l]; rfl
theorem byV_map : ∀ bs : List Nat, (bs.map fun b : Nat => (b : Int)).map (Value.int .u8) = byV bs
  | [] => rfl
  | b :: l => by rw [List.map_cons, List.map_cons, byV_map l]; rfl
def strB (l : List Nat) : ByteArray := (l.map fun b : Nat => (b : Int)).foldl (fun r n => r.push (UInt8.ofNat n.toNat)) ByteArray.empty
section
variable {P : Program} {S : World → Prop} {W0 : World} {N : FSz} {e : Env} {A R : List HP} {t t' : TypeId} {x : Operand} {bs : List Nat} {a : Option Addr} {c n : Nat}
theorem v_bstrS {E : TypeId} (hs : P.underlying t = some (.slice E)) (he : P.underlying E = some (.int .u8)) (hd : P.underlying t' = some .string) (hx : ev e x = some (.slice a bs.length c)) (h : SlA S a 1 (fun x => [bV x]) bs) :
    Val P S N e (.convert t t' x) (.string (strB bs)) := fun act w _ _ _ _ _ hF hO => by
  have hr : (Conv.bytesToString (.slice a bs.length c)).run P w = .ok (.string (strB bs)) w := by
    cases a with
    | none =>
      have : bs = [] := by
        cases bs with
        | nil => rfl
        | cons b l => obtain ⟨_, _, h0, _⟩ := h 0 b rfl; cases h0
      subst this
      simp [Conv.bytesToString, strB]
    | some ad =>
      have hl : (loadCells ad bs.length).run P w = .ok ((bs.map fun b : Nat => (b : Int)).map (Value.int .u8)).toArray w := by
        by_cases hb : bs = []
        · subst hb; simp [loadCells, loadCellsFrom]
        · obtain ⟨b, off, hae, hc⟩ := h.all hb (fun _ => rfl)
          cases hae
          rw [byV_flat] at hc
          have := run_loadCells (P := P) (w := w) (vs := byV bs) (fun i v hi => hc i v hi w hO) bs.length 0 #[] (by simp [byV_len])
          simp only [loadCells, this, List.drop_zero, Array.empty_append, byV_map]
      exact run_bytesToString w ad bs.length c _ hl
  simp only [execOp, hF.eval hx, Sem.run_bind, run_convert_bytes_string w t t' E a bs.length c hs he hd, hr, Result.andThen_ok, Sem.run_pure]
theorem v_bstrSN {E : TypeId} (hs : P.underlying t = some (.slice E)) (he : P.underlying E = some (.int .u8)) (hd : P.underlying t' = some .string) (hx : ev e x = some (.slice a n c)) (hn : bs.length = n) (h : SlA S a 1 (fun x => [bV x]) bs) :
    Val P S N e (.convert t t' x) (.string (strB bs)) := by subst hn; exact v_bstrS hs he hd hx h
end
end Go.Proofs.YtncegikenkpcmaaGreat
