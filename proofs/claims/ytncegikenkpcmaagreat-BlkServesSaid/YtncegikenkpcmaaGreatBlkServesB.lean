/-
  Part 2 of the proof of BlkServes: rules, and walks of functions. Conditions: none.
-/
import Derived.Test.YtncegikenkpcmaaGreatBlkServesA
namespace Go.Proofs.YtncegikenkpcmaaGreat
open Go.RowKit
set_option linter.unusedSimpArgs false
set_option linter.unusedVariables false
set_option maxRecDepth 20000
def rtbH (b : Nat) (L : List Int) : HP := chk (fun C => ∃ a c, C = [pt b (cob [.slice a L.length c] 241), osl 3 1 (.slice a L.length c) (L.flatMap inI)])
section
variable {W0 : World} {N : FSz} {K : Act → World → Prop} {e : Env} {A B R R1 R2 : List HP} {b n c : Nat} {L : List Int}
theorem run_rtb [hk : Tk rtbH b A L R] (h : ∀ a c, Run W0 N K e (pt b (cob [.slice a L.length c] 241) :: osl 3 1 (.slice a L.length c) (L.flatMap inI) :: R)) : Run W0 N K e A :=
  run_tk (r := rtbH) (b := b) (run_chk fun C hC => by obtain ⟨a, c, rfl⟩ := hC; exact h a c)
theorem ent_rtb {a : Option Addr} {ys : List Value} [h1 : Tk pt b A (cob [.slice a n c] 241) R1] [h2 : Tk (osl 3 1) (.slice a n c) R1 ys R2] (hk : n = L.length) (hy : ys = L.flatMap inI) [q : Ent R2 B] : Ent A (rtbH b L :: B) := by
  subst hk; subst hy
  exact (Ent.ofPerm (h1.perm.trans (h2.perm.cons _))).trans ((ent_chk (R := R2) (C := [_, _]) ⟨a, c, rfl⟩).trans (Ent.cons q))
end
theorem inI_len (x : Int) : (inI x).length = 1 := rfl
theorem inI_fm (L : List Int) : (L.flatMap inI).length = L.length := by rw [flat_len inI_len]; omega
theorem inI_set (L : List Int) (j : Nat) (w : Int) : (L.flatMap inI).set j (.int .i64 w) = (L.set j w).flatMap inI := by
  induction L generalizing j with
  | nil => rfl
  | cons x L ih =>
    cases j with
    | zero => rfl
    | succ j => simp only [List.flatMap_cons, inI, List.cons_append, List.nil_append, List.set_cons_succ] at ih ⊢; rw [ih]
theorem inI_one (L : List Int) : allOne (L.flatMap inI) = true := by
  induction L with
  | nil => rfl
  | cons x l ih => rw [List.flatMap_cons, allOne, List.all_append, Bool.and_eq_true]; exact ⟨rfl, ih⟩
theorem rpNew_spec03 (W0 : World) (R : List HP) (n : Nat) (h : n ≤ 64) : Spec Tryz.prog W0 77 [.int .i64 n] R (fun v B => ∃ b, v = .tuple #[.pointer (some ⟨b, 0, none⟩), .int .i64 0] ∧ B = rtbH b (List.replicate n (-1)) :: R) := by
  refine spec_body Tryz.func77 Tryz.ntmps77 rfl rfl ?_
  refine x_seq (x_region (s_val rfl (v_assign rfl) (s_val rfl (v_assign rfl) (x_nil (n_then (x_seq (x_seq (x_region (s_val rfl (v_move rfl) (s_val rfl (v_lss rfl rfl) (s_val rfl (v_move rfl) ?_)))))))))))
  refine s_or rfl rfl rfl ?_ ?_
  · intro g1_3
    omega
  · intro g1_3
    refine s_val rfl (v_move rfl) (s_yes rfl rfl (s_val rfl (v_gtr rfl rfl) (s_val rfl (v_pick_f rfl rfl) (x_nil (n_then ?_)))))
    refine x_if rfl ?_ ?_
    · intro c1
      omega
    · intro c1
      refine x_skip (n_then (x_seq (x_region (s_val rfl (v_build Tryz.underlying241 Tryz.zeroValue241 (sized_cons Tryz.sizeOf38 sized_nil) fil_nil) ?_))))
      refine s_do rfl (d_boxA rfl) ?_
      rintro _ _ ⟨bt, rfl, rfl⟩
      refine s_val rfl (v_assign rfl) (x_nil (n_then (x_seq (x_seq (x_region (s_val rfl (v_assign rfl) (x_nil (n_then (x_block ?_)))))))))
      refine x_loop (fun X : Nat × Option Addr × Nat => X.1 ≤ n) (fun X => [(0, .int .i64 n), (4, .pointer (some ⟨bt, 0, none⟩)), (5, .int .i64 X.1)]) (fun X => pt bt (cob [.slice X.2.1 X.1 X.2.2] 241) :: osl 3 1 (.slice X.2.1 X.1 X.2.2) ((List.replicate X.1 (-1)).flatMap inI) :: R) (fun X => n - X.1) (0, none, 0) ?_ ?_ ?_ ?_
      · exact Nat.zero_le _
      · repeat (first | exact sub_nil | refine sub_cons rfl ?_)
      · exact Ent.cons ent_osl_nil
      · intro ⟨i, a, c⟩ hi
        dsimp only at hi ⊢
        refine x_seq (x_seq (x_region (s_val rfl (v_move rfl) (s_val rfl (v_move rfl) (s_val rfl (v_lss rfl rfl) (x_nil (n_then ?_)))))))
        refine x_if rfl ?_ ?_
        · intro c5
          refine x_skip (n_then (x_seq (x_block (x_region (s_val rfl (v_move rfl) (s_val rfl (v_move rfl) (s_val rfl (v_nilCheck rfl) ?_)))))))
          refine s_val rfl (v_fieldAddr rfl Tryz.underlying241 rfl Tryz.sizeOf38 rfl (by first | exact Nat.zero_add _ | rfl)) ?_
          refine s_val rfl (v_load Tryz.isAgg38 rfl (cell_own rfl)) ?_
          refine s_do rfl (d_sliceLit Tryz.underlying38 Tryz.sizeOf3 Tryz.zeroValue3 rfl rfl rfl rfl rfl (by decide) (by decide)) ?_
          rintro _ _ ⟨b2, rfl, rfl⟩
          refine s_do rfl (d_append (sz := 1) (by_ := 8) (info := Tryz.t3) Tryz.underlying38 (by kernel_rfl) rfl rfl rfl rfl (by decide) rfl rfl cells_all rfl rfl (by simp only [maxLen]; omega) (by omega)) ?_
          rintro _ _ ⟨a3, c3, rfl, rfl⟩
          have hmp : (List.replicate i (-1)).flatMap inI ++ [Value.int .i64 (-1)] = (List.replicate (i + 1) (-1 : Int)).flatMap inI := by
            rw [List.replicate_succ', List.flatMap_append]; rfl
          rw [hmp]
          refine s_val rfl (v_nilCheck rfl) ?_
          refine s_val rfl (v_fieldAddr rfl Tryz.underlying241 rfl Tryz.sizeOf38 rfl (by first | exact Nat.zero_add _ | rfl)) ?_
          refine s_do0 (d_store Tryz.sizeOf38 rfl rfl rfl (Nat.le_of_ble_eq_true rfl) SetL.eq) ?_
          rintro _ _ rfl
          refine x_nil (n_block (n_then (x_region (s_val rfl (v_move rfl) ?_))))
          refine s_val rfl (v_add rfl rfl (by first | exact w64 (by omega) | rfl)) ?_
          refine s_val rfl (v_assign rfl) (x_nil (n_then ?_))
          refine inv_intro (i + 1, a3, c3) ?_ ?_ ?_ ?_
          · omega
          · omega
          · repeat (first | exact sub_nil | refine sub_cons rfl ?_)
          · exact inferInstance
        · intro c5
          refine x_exit (e_then (e_then (e_block (n_then (x_seq (x_region (s_val rfl (v_move rfl) (s_val rfl (v_assign rfl) (s_val rfl (v_assign rfl) (x_nil (n_then (x_ret (x_done (.inl rfl) (.cons (r_tmp rfl) (.cons (r_tmp rfl) .nil)) ?_)))))))))))))
          obtain rfl : i = n := by omega
          exact ⟨_, ⟨bt, rfl, rfl⟩, ent_rtb (by simp) rfl⟩
def stL (L : List Int) (f k : Nat) (w : Int) : List Int := (List.range L.length).map fun j => if f ≤ j ∧ j < f + k then w else L.getD j (-1)
theorem stL_len {L : List Int} {f k : Nat} {w : Int} : (stL L f k w).length = L.length := by simp [stL]
theorem stL_zero {L : List Int} {f : Nat} {w : Int} : stL L f 0 w = L := by
  apply List.ext_getElem
  · exact stL_len
  · intro i h1 h2
    simp only [stL, List.getElem_map, List.getElem_range]
    rw [if_neg (by omega)]; simp [List.getD, h2]
theorem stL_set {L : List Int} {f k : Nat} {w : Int} (h : f + k < L.length) : (stL L f k w).set (f + k) w = stL L f (k + 1) w := by
  apply List.ext_getElem
  · simp [stL]
  · intro i h1 h2
    rw [List.getElem_set]
    simp only [stL, List.getElem_map, List.getElem_range]
    by_cases e : f + k = i
    · rw [if_pos e, if_pos (by omega)]
    · rw [if_neg e]
      by_cases q : f ≤ i ∧ i < f + k
      · rw [if_pos q, if_pos (by omega)]
      · rw [if_neg q, if_neg (by omega)]
theorem rpS_st {L : List Int} {f k : Nat} {w : Int} (h : rpE L f k w = 0) : rpS L f k w = stL L f k w := by
  rw [rpS, if_pos h, stL]
  apply List.map_congr_left
  intro i _
  by_cases q : f ≤ i ∧ i < f + k
  · rw [if_pos q, if_pos (by omega)]
  · rw [if_neg q, if_neg (by omega)]
theorem rpE_used {L : List Int} {f k i : Nat} {w : Int} (hb : ¬ ((f : Int) < 0 ∨ (k : Int) < 1 ∨ (L.length : Int) < f ∨ (L.length : Int) - f < k ∨ w < 0 ∨ 64 ≤ w)) (hi : i < k) (h : 0 ≤ L.getD (f + i) (-1)) : rpE L f k w = 5 := by
  rw [rpE, if_neg hb, if_pos]
  rw [List.any_eq_true]
  exact ⟨i, List.mem_range.2 (by omega), decide_eq_true (by rw [Int.toNat_natCast]; exact h)⟩
theorem rpE_free {L : List Int} {f k : Nat} {w : Int} (hb : ¬ ((f : Int) < 0 ∨ (k : Int) < 1 ∨ (L.length : Int) < f ∨ (L.length : Int) - f < k ∨ w < 0 ∨ 64 ≤ w)) (h : ∀ j, j < k → ¬ 0 ≤ L.getD (f + j) (-1)) : rpE L f k w = 0 := by
  rw [rpE, if_neg hb, if_neg]
  intro q
  obtain ⟨i, hi, hd⟩ := List.any_eq_true.1 q
  have hd := of_decide_eq_true hd
  rw [Int.toNat_natCast] at hd
  exact h i (by have := List.mem_range.1 hi; omega) hd
theorem rpGive_spec (W0 : World) (R : List HP) (b : Nat) (L : List Int) (hl : L.length ≤ 64) (f k w : Int) (hk : -9223372036854775808 ≤ f ∧ f < 9223372036854775808) :
    Spec Tryz.prog W0 79 [.pointer (some ⟨b, 0, none⟩), .int .i64 f, .int .i64 k, .int .i64 w] (rtbH b L :: R) (fun v B => v = .int .i64 (rpE L f k w) ∧ B = rtbH b (rpS L f k w) :: R) := by
  refine spec_body Tryz.func79 Tryz.ntmps79 rfl rfl ?_
  refine x_seq (x_region (s_val rfl (v_assign rfl) (x_nil (n_then (x_seq (x_seq ?_))))))
  refine run_rtb (b := b) fun a c => ?_
  refine x_region (s_val rfl (v_move rfl) (s_val rfl (v_lss rfl rfl) (s_val rfl (v_move rfl) ?_)))
  refine s_or rfl rfl rfl ?_ ?_
  · intro g1_3
    refine s_no rfl rfl rfl rfl (s_val rfl (v_pick_t rfl rfl) (s_val rfl (v_move rfl) (s_no rfl rfl rfl rfl (s_no rfl rfl rfl rfl (s_no rfl rfl rfl rfl (s_no rfl rfl rfl rfl (s_no rfl rfl rfl rfl (s_no rfl rfl rfl rfl (s_no rfl rfl rfl rfl (s_val rfl (v_pick_t rfl rfl) (s_val rfl (v_move rfl) (s_no rfl rfl rfl rfl (s_no rfl rfl rfl rfl (s_no rfl rfl rfl rfl (s_no rfl rfl rfl rfl (s_no rfl rfl rfl rfl (s_no rfl rfl rfl rfl (s_no rfl rfl rfl rfl (s_no rfl rfl rfl rfl (s_no rfl rfl rfl rfl (s_val rfl (v_pick_t rfl rfl) (s_val rfl (v_move rfl) (s_no rfl rfl rfl rfl ?_)))))))))))))))))))))))
    refine s_no rfl rfl rfl rfl (s_val rfl (v_pick_t rfl rfl) (s_val rfl (v_move rfl) (s_no rfl rfl rfl rfl (s_no rfl rfl rfl rfl (s_val rfl (v_pick_t rfl rfl) (x_nil (n_then (x_ift rfl (x_seq (x_region (s_val rfl (v_assign rfl) (x_nil (n_then (x_ret (r_then (x_done (.inl rfl) (.cons (r_tmp rfl) .nil) ?_))))))))))))))))
    have he : rpE L f k w = 1 := by rw [rpE, if_pos (by omega)]
    rw [rpS, he, if_neg (by decide)]
    exact ⟨_, ⟨rfl, rfl⟩, ent_rtb rfl rfl⟩
  · intro g1_3
    refine s_val rfl (v_move rfl) (s_yes rfl rfl (s_val rfl (v_lss rfl rfl) (s_val rfl (v_pick_f rfl rfl) (s_val rfl (v_move rfl) ?_))))
    refine s_or rfl rfl rfl ?_ ?_
    · intro g1_7
      refine s_no rfl rfl rfl rfl (s_no rfl rfl rfl rfl (s_no rfl rfl rfl rfl (s_no rfl rfl rfl rfl (s_no rfl rfl rfl rfl (s_no rfl rfl rfl rfl (s_val rfl (v_pick_t rfl rfl) (s_val rfl (v_move rfl) (s_no rfl rfl rfl rfl (s_no rfl rfl rfl rfl (s_no rfl rfl rfl rfl (s_no rfl rfl rfl rfl (s_no rfl rfl rfl rfl (s_no rfl rfl rfl rfl (s_no rfl rfl rfl rfl (s_no rfl rfl rfl rfl (s_no rfl rfl rfl rfl (s_val rfl (v_pick_t rfl rfl) (s_val rfl (v_move rfl) (s_no rfl rfl rfl rfl (s_no rfl rfl rfl rfl (s_val rfl (v_pick_t rfl rfl) (s_val rfl (v_move rfl) (s_no rfl rfl rfl rfl ?_)))))))))))))))))))))))
      refine s_no rfl rfl rfl rfl (s_val rfl (v_pick_t rfl rfl) (x_nil (n_then (x_ift rfl (x_seq (x_region (s_val rfl (v_assign rfl) (x_nil (n_then (x_ret (r_then (x_done (.inl rfl) (.cons (r_tmp rfl) .nil) ?_))))))))))))
      have he : rpE L f k w = 1 := by rw [rpE, if_pos (by omega)]
      rw [rpS, he, if_neg (by decide)]
      exact ⟨_, ⟨rfl, rfl⟩, ent_rtb rfl rfl⟩
    · intro g1_7
      refine s_val rfl (v_move rfl) (s_yes rfl rfl (s_val rfl (v_move rfl) (s_yes rfl rfl (s_val rfl (v_nilCheck rfl) (s_yes rfl rfl ?_)))))
      refine s_val rfl (v_fieldAddr rfl Tryz.underlying241 rfl Tryz.sizeOf38 rfl (by first | exact Nat.zero_add _ | rfl)) ?_
      refine s_yes rfl rfl (s_val rfl (v_load Tryz.isAgg38 rfl (cell_own rfl)) ?_)
      refine s_yes rfl rfl (s_val rfl (v_len_slice Tryz.underlying38 rfl) (s_yes rfl rfl (s_val rfl (v_gtr rfl rfl) (s_val rfl (v_pick_f rfl rfl) (s_val rfl (v_move rfl) ?_)))))
      refine s_or rfl rfl rfl ?_ ?_
      · intro g1_16
        refine s_no rfl rfl rfl rfl (s_no rfl rfl rfl rfl (s_no rfl rfl rfl rfl (s_no rfl rfl rfl rfl (s_no rfl rfl rfl rfl (s_no rfl rfl rfl rfl (s_no rfl rfl rfl rfl (s_no rfl rfl rfl rfl (s_val rfl (v_pick_t rfl rfl) (s_val rfl (v_move rfl) (s_no rfl rfl rfl rfl (s_no rfl rfl rfl rfl (s_val rfl (v_pick_t rfl rfl) (s_val rfl (v_move rfl) (s_no rfl rfl rfl rfl (s_no rfl rfl rfl rfl (s_val rfl (v_pick_t rfl rfl) (x_nil (n_then (x_ift rfl (x_seq (x_region (s_val rfl (v_assign rfl) (x_nil ?_)))))))))))))))))))))))
        refine n_then (x_ret (r_then (x_done (.inl rfl) (.cons (r_tmp rfl) .nil) ?_)))
        have he : rpE L f k w = 1 := by rw [rpE, if_pos (by omega)]
        rw [rpS, he, if_neg (by decide)]
        exact ⟨_, ⟨rfl, rfl⟩, ent_rtb rfl rfl⟩
      · intro g1_16
        refine s_val rfl (v_move rfl) (s_yes rfl rfl (s_val rfl (v_move rfl) (s_yes rfl rfl (s_val rfl (v_nilCheck rfl) (s_yes rfl rfl ?_)))))
        refine s_val rfl (v_fieldAddr rfl Tryz.underlying241 rfl Tryz.sizeOf38 rfl (by first | exact Nat.zero_add _ | rfl)) ?_
        refine s_yes rfl rfl (s_val rfl (v_load Tryz.isAgg38 rfl (cell_own rfl)) ?_)
        refine s_yes rfl rfl (s_val rfl (v_len_slice Tryz.underlying38 rfl) (s_yes rfl rfl (s_val rfl (v_move rfl) (s_yes rfl rfl ?_))))
        refine s_val rfl (v_sub rfl rfl (w64 (by omega))) ?_
        refine s_yes rfl rfl (s_val rfl (v_gtr rfl rfl) (s_val rfl (v_pick_f rfl rfl) (s_val rfl (v_move rfl) ?_)))
        refine s_or rfl rfl rfl ?_ ?_
        · intro g1_27
          refine s_no rfl rfl rfl rfl (s_val rfl (v_pick_t rfl rfl) (s_val rfl (v_move rfl) (s_no rfl rfl rfl rfl (s_no rfl rfl rfl rfl (s_val rfl (v_pick_t rfl rfl) (x_nil (n_then (x_ift rfl (x_seq (x_region (s_val rfl (v_assign rfl) (x_nil (n_then (x_ret (r_then (x_done (.inl rfl) (.cons (r_tmp rfl) .nil) ?_))))))))))))))))
          have he : rpE L f k w = 1 := by rw [rpE, if_pos (by omega)]
          rw [rpS, he, if_neg (by decide)]
          exact ⟨_, ⟨rfl, rfl⟩, ent_rtb rfl rfl⟩
        · intro g1_27
          refine s_val rfl (v_move rfl) (s_yes rfl rfl (s_val rfl (v_lss rfl rfl) (s_val rfl (v_pick_f rfl rfl) (s_val rfl (v_move rfl) ?_))))
          refine s_or rfl rfl rfl ?_ ?_
          · intro g1_31
            refine s_no rfl rfl rfl rfl (s_val rfl (v_pick_t rfl rfl) (x_nil (n_then (x_ift rfl (x_seq (x_region (s_val rfl (v_assign rfl) (x_nil (n_then (x_ret (r_then (x_done (.inl rfl) (.cons (r_tmp rfl) .nil) ?_))))))))))))
            have he : rpE L f k w = 1 := by rw [rpE, if_pos (by omega)]
            rw [rpS, he, if_neg (by decide)]
            exact ⟨_, ⟨rfl, rfl⟩, ent_rtb rfl rfl⟩
          · intro g1_31
            refine s_val rfl (v_move rfl) (s_yes rfl rfl (s_val rfl (v_geq rfl rfl) (s_val rfl (v_pick_f rfl rfl) (x_nil (n_then ?_)))))
            refine x_if rfl ?_ ?_
            · intro c1
              refine x_seq (x_region (s_val rfl (v_assign rfl) (x_nil (n_then (x_ret (r_then (x_done (.inl rfl) (.cons (r_tmp rfl) .nil) ?_)))))))
              have he : rpE L f k w = 1 := by rw [rpE, if_pos (by omega)]
              rw [rpS, he, if_neg (by decide)]
              exact ⟨_, ⟨rfl, rfl⟩, ent_rtb rfl rfl⟩
            · intro c1
              refine x_skip (n_then (x_seq (x_seq ?_)))
              have hb : ¬ (f < 0 ∨ k < 1 ∨ (L.length : Int) < f ∨ (L.length : Int) - f < k ∨ w < 0 ∨ 64 ≤ w) := by omega
              obtain ⟨f, rfl⟩ : ∃ f' : Nat, f = (f' : Int) := ⟨f.toNat, by omega⟩
              obtain ⟨k, rfl⟩ : ∃ k' : Nat, k = (k' : Int) := ⟨k.toNat, by omega⟩
              have hfk : f + k ≤ L.length := by omega
              refine run_form (E := 3) (sz := 1) (a := a) (c := c) (n := L.length) (ys := L.flatMap inI) (fun hf => ?_)
              obtain ⟨g, rfl⟩ := form_some hf (by rw [← List.length_pos_iff, inI_fm]; omega)
              refine x_region (s_val rfl (v_assign rfl) (x_nil (n_then (x_block ?_))))
              refine x_loop (fun i : Nat => i ≤ k ∧ ∀ j, j < i → ¬ 0 ≤ L.getD (f + j) (-1)) (fun i => [(0, .pointer (some ⟨b, 0, none⟩)), (1, .int .i64 f), (2, .int .i64 k), (3, .int .i64 w), (9, .int .i64 i)]) (fun i => pt b (cob [.slice (some ⟨g, 0, none⟩) L.length c] 241) :: osl 3 1 (.slice (some ⟨g, 0, none⟩) L.length c) (L.flatMap inI) :: R) (fun i => k - i) 0 ?_ ?_ ?_ ?_
              · exact ⟨Nat.zero_le _, fun j hj => absurd hj (Nat.not_lt_zero j)⟩
              · repeat (first | exact sub_nil | refine sub_cons rfl ?_)
              · exact inferInstance
              · intro i ⟨hi, hI⟩
                refine x_seq (x_seq (x_region (s_val rfl (v_move rfl) (s_val rfl (v_move rfl) (s_val rfl (v_lss rfl rfl) (x_nil (n_then ?_)))))))
                refine x_if rfl ?_ ?_
                · intro c4
                  refine x_skip (n_then (x_seq (x_block (x_seq ?_))))
                  have hi1 : f + i < L.length := by omega
                  have hgi : L[f + i]? = some (L.getD (f + i) (-1)) := by simp [List.getD, hi1]
                  refine x_region (s_val rfl (v_move rfl) (s_val rfl (v_nilCheck rfl) ?_))
                  refine s_val rfl (v_fieldAddr rfl Tryz.underlying241 rfl Tryz.sizeOf38 rfl (by first | exact Nat.zero_add _ | rfl)) ?_
                  refine s_val rfl (v_load Tryz.isAgg38 rfl (cell_own rfl)) ?_
                  refine s_val rfl (v_move rfl) (s_val rfl (v_move rfl) ?_)
                  refine s_val rfl (v_add rfl rfl (by rw [w64 (by omega)]; omega : IntKind.wrap .i64 ((f : Int) + (i : Int)) = ((f + i : Nat) : Int))) ?_
                  refine s_val rfl (v_idx Tryz.underlying38 Tryz.sizeOf3 rfl rfl rfl hi1 (by first | exact Nat.zero_add _ | rfl)) ?_
                  refine s_val rfl (v_load Tryz.isAgg3 rfl (cells_rw (f := inI) (E := 3) (sz := 1) (n := L.length) (c := c) rfl inI_len (by decide) hgi 0 _ rfl)) ?_
                  refine s_val rfl (v_geq rfl rfl) (x_nil (n_then ?_))
                  refine x_if rfl ?_ ?_
                  · intro c6
                    refine x_seq (x_region (s_val rfl (v_assign rfl) (x_nil (n_then (x_ret (r_block (r_then (r_then (r_block (r_then (x_done (.inl rfl) (.cons (r_tmp rfl) .nil) ?_)))))))))))
                    have he : rpE L f k w = 5 := rpE_used hb (by omega) c6
                    rw [rpS, he, if_neg (by decide)]
                    exact ⟨_, ⟨rfl, rfl⟩, ent_rtb rfl rfl⟩
                  · intro c6
                    refine x_skip (n_block (n_then (x_region (s_val rfl (v_move rfl) ?_))))
                    refine s_val rfl (v_add rfl rfl (by first | exact w64 (by omega) | rfl)) ?_
                    refine s_val rfl (v_assign rfl) (x_nil (n_then ?_))
                    refine inv_intro (i + 1) ?_ ?_ ?_ ?_
                    · refine ⟨by omega, fun j hj => ?_⟩
                      rcases Nat.lt_or_ge j i with q | q
                      · exact hI j q
                      · rw [show j = i by omega]; exact c6
                    · omega
                    · repeat (first | exact sub_nil | refine sub_cons rfl ?_)
                    · exact inferInstance
                · intro c4
                  refine x_exit (e_then (e_then (e_block (n_then (x_seq ?_)))))
                  obtain rfl : i = k := by omega
                  have he : rpE L f i w = 0 := rpE_free hb hI
                  refine x_region (s_do rfl (d_slice0 Tryz.underlying38 Tryz.sizeOf3 rfl) ?_)
                  rintro _ _ ⟨be, rfl, rfl⟩
                  refine s_val rfl (v_move rfl) (s_val rfl (v_nilCheck rfl) ?_)
                  refine s_val rfl (v_fieldAddr rfl Tryz.underlying241 rfl Tryz.sizeOf38 rfl (by first | exact Nat.zero_add _ | rfl)) ?_
                  refine s_val rfl (v_load Tryz.isAgg38 rfl (cell_own rfl)) ?_
                  refine s_do rfl (d_append (sz := 1) (by_ := 8) (info := Tryz.t3) Tryz.underlying38 (by kernel_rfl) rfl rfl rfl rfl (by decide) rfl rfl (cells_osl (E := 3) (sz := 1) (a := some ⟨g, 0, none⟩) (c := c) (n := L.length)) (by rw [inI_fm, Nat.mul_one]) (inI_one L) (by simp only [maxLen]; omega) (by omega)) ?_
                  rintro _ _ ⟨a3, c3, rfl, rfl⟩
                  rw [List.nil_append, Nat.zero_add]
                  refine run_form (E := 3) (sz := 1) (a := a3) (c := c3) (n := L.length) (ys := L.flatMap inI) (fun hf3 => ?_)
                  obtain ⟨g3, rfl⟩ := form_some hf3 (by rw [← List.length_pos_iff, inI_fm]; omega)
                  refine s_val rfl (v_assign rfl) (x_nil (n_then (x_seq (x_seq (x_region (s_val rfl (v_assign rfl) (x_nil (n_then (x_block ?_)))))))))
                  refine x_loop (fun j : Nat => j ≤ i) (fun j => [(0, .pointer (some ⟨b, 0, none⟩)), (1, .int .i64 f), (2, .int .i64 i), (3, .int .i64 w), (10, .slice (some ⟨g3, 0, none⟩) L.length c3), (11, .int .i64 j)]) (fun j => pt b (cob [.slice (some ⟨g, 0, none⟩) L.length c] 241) :: osl 3 1 (.slice (some ⟨g3, 0, none⟩) L.length c3) ((stL L f j w).flatMap inI) :: R) (fun j => i - j) 0 ?_ ?_ ?_ ?_
                  · exact Nat.zero_le _
                  · repeat (first | exact sub_nil | refine sub_cons rfl ?_)
                  · rw [stL_zero]; exact inferInstance
                  · intro j hj
                    refine x_seq (x_seq (x_region (s_val rfl (v_move rfl) (s_val rfl (v_move rfl) (s_val rfl (v_lss rfl rfl) (x_nil (n_then ?_)))))))
                    refine x_if rfl ?_ ?_
                    · intro c10
                      refine x_skip (n_then (x_seq (x_block (x_region (s_val rfl (v_move rfl) (s_val rfl (v_move rfl) (s_val rfl (v_move rfl) ?_)))))))
                      refine s_val rfl (v_add rfl rfl (by rw [w64 (by omega)]; omega : IntKind.wrap .i64 ((f : Int) + (j : Int)) = ((f + j : Nat) : Int))) ?_
                      refine s_val rfl (v_move rfl) ?_
                      refine s_val rfl (v_idx Tryz.underlying38 Tryz.sizeOf3 rfl rfl rfl (by omega) (by first | exact Nat.zero_add _ | rfl)) ?_
                      refine s_do0 (d_storeS (E := 3) (sz := 1) (n := L.length) (c := c3) (l' := (stL L f (j + 1) w).flatMap inI) Tryz.sizeOf3 rfl rfl rfl (by rw [inI_fm, stL_len]; omega) (by rw [Nat.mul_one, inI_set, stL_set (by omega)])) ?_
                      rintro _ _ rfl
                      refine x_nil (n_block (n_then (x_region (s_val rfl (v_move rfl) ?_))))
                      refine s_val rfl (v_add rfl rfl (by first | exact w64 (by omega) | rfl)) ?_
                      refine s_val rfl (v_assign rfl) (x_nil (n_then ?_))
                      refine inv_intro (j + 1) ?_ ?_ ?_ ?_
                      · omega
                      · omega
                      · repeat (first | exact sub_nil | refine sub_cons rfl ?_)
                      · exact inferInstance
                    · intro c10
                      refine x_exit (e_then (e_then (e_block (n_then (x_seq (x_region (s_val rfl (v_move rfl) (s_val rfl (v_move rfl) (s_val rfl (v_nilCheck rfl) ?_)))))))))
                      refine s_val rfl (v_fieldAddr rfl Tryz.underlying241 rfl Tryz.sizeOf38 rfl (by first | exact Nat.zero_add _ | rfl)) ?_
                      refine s_do0 (d_store Tryz.sizeOf38 rfl rfl rfl (Nat.le_of_ble_eq_true rfl) SetL.eq) ?_
                      rintro _ _ rfl
                      refine x_nil (n_then (x_seq (x_region (s_val rfl (v_assign rfl) (x_nil (n_then (x_ret (x_done (.inl rfl) (.cons (r_tmp rfl) .nil) ?_))))))))
                      obtain rfl : j = i := by omega
                      rw [he, rpS_st he]
                      exact ⟨_, ⟨rfl, rfl⟩, ent_rtb stL_len.symm rfl⟩
theorem rpWho_spec (W0 : World) (R : List HP) (b : Nat) (L : List Int) (hl : L.length ≤ 64) (i : Int) :
    Spec Tryz.prog W0 85 [.pointer (some ⟨b, 0, none⟩), .int .i64 i] (rtbH b L :: R) (fun v B => v = .tuple #[.int .i64 ((rpW L i).getD 0), .bool (rpW L i).isSome] ∧ B = rtbH b L :: R) := by
  by_cases hb : i < 0 ∨ (L.length : Int) ≤ i
  · have hn : rpW L i = none := by rw [rpW, if_pos (by omega)]
    rw [hn]
    refine spec_body Tryz.func85 Tryz.ntmps85 rfl rfl ?_
    refine x_seq (x_region (s_val rfl (v_assign rfl) (s_val rfl (v_assign rfl) (x_nil (n_then (x_seq (x_seq ?_)))))))
    refine run_rtb (b := b) fun a c => ?_
    refine x_region (s_val rfl (v_move rfl) (s_val rfl (v_lss rfl rfl) (s_val rfl (v_move rfl) ?_)))
    refine s_or rfl rfl rfl ?_ ?_
    · intro g1_3
      refine s_no rfl rfl rfl rfl (s_no rfl rfl rfl rfl (s_no rfl rfl rfl rfl (s_no rfl rfl rfl rfl (s_no rfl rfl rfl rfl (s_no rfl rfl rfl rfl (s_val rfl (v_pick_t rfl rfl) (s_val rfl (v_move rfl) (s_no rfl rfl rfl rfl (s_no rfl rfl rfl rfl (s_no rfl rfl rfl rfl (s_no rfl rfl rfl rfl (s_no rfl rfl rfl rfl (s_no rfl rfl rfl rfl (s_no rfl rfl rfl rfl (s_no rfl rfl rfl rfl (s_val rfl (v_pick_t rfl rfl) (x_nil (n_then (x_ift rfl (x_seq (x_region (s_val rfl (v_assign rfl) (s_val rfl (v_assign rfl) ?_)))))))))))))))))))))))
      refine x_nil (n_then (x_ret (r_then (x_done (.inl rfl) (.cons (r_tmp rfl) (.cons (r_tmp rfl) .nil)) ?_))))
      exact ⟨_, ⟨rfl, rfl⟩, ent_rtb rfl rfl⟩
    · intro g1_3
      refine s_val rfl (v_move rfl) (s_yes rfl rfl (s_val rfl (v_move rfl) (s_yes rfl rfl (s_val rfl (v_nilCheck rfl) (s_yes rfl rfl ?_)))))
      refine s_val rfl (v_fieldAddr rfl Tryz.underlying241 rfl Tryz.sizeOf38 rfl (by first | exact Nat.zero_add _ | rfl)) ?_
      refine s_yes rfl rfl (s_val rfl (v_load Tryz.isAgg38 rfl (cell_own rfl)) ?_)
      refine s_yes rfl rfl (s_val rfl (v_len_slice Tryz.underlying38 rfl) (s_yes rfl rfl (s_val rfl (v_geq rfl rfl) (s_val rfl (v_pick_f rfl rfl) (s_val rfl (v_move rfl) ?_)))))
      refine s_or rfl rfl rfl ?_ ?_
      · intro g1_12
        refine s_no rfl rfl rfl rfl (s_no rfl rfl rfl rfl (s_no rfl rfl rfl rfl (s_no rfl rfl rfl rfl (s_no rfl rfl rfl rfl (s_no rfl rfl rfl rfl (s_no rfl rfl rfl rfl (s_val rfl (v_pick_t rfl rfl) (x_nil (n_then (x_ift rfl (x_seq (x_region (s_val rfl (v_assign rfl) (s_val rfl (v_assign rfl) (x_nil (n_then (x_ret (r_then (x_done (.inl rfl) (.cons (r_tmp rfl) (.cons (r_tmp rfl) .nil)) ?_)))))))))))))))))))
        exact ⟨_, ⟨rfl, rfl⟩, ent_rtb rfl rfl⟩
      · intro g1_12
        omega
  · obtain ⟨i, rfl⟩ : ∃ i' : Nat, i = (i' : Int) := ⟨i.toNat, by omega⟩
    have hi1 : i < L.length := by omega
    have hgi : L[i]? = some (L.getD i (-1)) := by simp [List.getD, hi1]
    have hW : rpW L i = if L.getD i (-1) < 0 then none else some (L.getD i (-1)) := by
      rw [rpW, Int.toNat_natCast]
      by_cases q : L.getD i (-1) < 0
      · rw [if_pos q, if_pos (.inr (.inr q))]
      · rw [if_neg q, if_neg (by omega)]
    rw [hW]
    refine spec_body Tryz.func85 Tryz.ntmps85 rfl rfl ?_
    refine x_seq (x_region (s_val rfl (v_assign rfl) (s_val rfl (v_assign rfl) (x_nil (n_then (x_seq (x_seq ?_)))))))
    refine run_rtb (b := b) fun a c => ?_
    refine run_form (E := 3) (sz := 1) (a := a) (c := c) (n := L.length) (ys := L.flatMap inI) (fun hf => ?_)
    obtain ⟨g, rfl⟩ := form_some hf (by rw [← List.length_pos_iff, inI_fm]; omega)
    refine x_region (s_val rfl (v_move rfl) (s_val rfl (v_lss rfl rfl) (s_val rfl (v_move rfl) ?_)))
    refine s_or rfl rfl rfl ?_ ?_
    · intro g1_3
      omega
    · intro g1_3
      refine s_val rfl (v_move rfl) (s_yes rfl rfl (s_val rfl (v_move rfl) (s_yes rfl rfl (s_val rfl (v_nilCheck rfl) (s_yes rfl rfl ?_)))))
      refine s_val rfl (v_fieldAddr rfl Tryz.underlying241 rfl Tryz.sizeOf38 rfl (by first | exact Nat.zero_add _ | rfl)) ?_
      refine s_yes rfl rfl (s_val rfl (v_load Tryz.isAgg38 rfl (cell_own rfl)) ?_)
      refine s_yes rfl rfl (s_val rfl (v_len_slice Tryz.underlying38 rfl) (s_yes rfl rfl (s_val rfl (v_geq rfl rfl) (s_val rfl (v_pick_f rfl rfl) (s_val rfl (v_move rfl) ?_)))))
      refine s_or rfl rfl rfl ?_ ?_
      · intro g1_12
        omega
      · intro g1_12
        refine s_val rfl (v_move rfl) (s_yes rfl rfl (s_val rfl (v_nilCheck rfl) (s_yes rfl rfl ?_)))
        refine s_val rfl (v_fieldAddr rfl Tryz.underlying241 rfl Tryz.sizeOf38 rfl (by first | exact Nat.zero_add _ | rfl)) ?_
        refine s_yes rfl rfl (s_val rfl (v_load Tryz.isAgg38 rfl (cell_own rfl)) ?_)
        refine s_yes rfl rfl (s_val rfl (v_move rfl) (s_yes rfl rfl ?_))
        refine s_val rfl (v_idx Tryz.underlying38 Tryz.sizeOf3 rfl rfl rfl hi1 (by first | exact Nat.zero_add _ | rfl)) ?_
        refine s_yes rfl rfl ?_
        refine s_val rfl (v_load Tryz.isAgg3 rfl (cells_rw (f := inI) (E := 3) (sz := 1) (n := L.length) (c := c) rfl inI_len (by decide) hgi 0 _ rfl)) ?_
        refine s_yes rfl rfl (s_val rfl (v_lss rfl rfl) (s_val rfl (v_pick_f rfl rfl) (x_nil (n_then ?_))))
        refine x_if rfl ?_ ?_
        · intro c1
          refine x_seq (x_region (s_val rfl (v_assign rfl) (s_val rfl (v_assign rfl) (x_nil (n_then (x_ret (r_then (x_done (.inl rfl) (.cons (r_tmp rfl) (.cons (r_tmp rfl) .nil)) ?_))))))))
          rw [if_pos c1]
          exact ⟨_, ⟨rfl, rfl⟩, ent_rtb rfl rfl⟩
        · intro c1
          refine x_skip (n_then (x_seq (x_region (s_val rfl (v_move rfl) (s_val rfl (v_nilCheck rfl) ?_)))))
          refine s_val rfl (v_fieldAddr rfl Tryz.underlying241 rfl Tryz.sizeOf38 rfl (by first | exact Nat.zero_add _ | rfl)) ?_
          refine s_val rfl (v_load Tryz.isAgg38 rfl (cell_own rfl)) ?_
          refine s_val rfl (v_move rfl) ?_
          refine s_val rfl (v_idx Tryz.underlying38 Tryz.sizeOf3 rfl rfl rfl hi1 (by first | exact Nat.zero_add _ | rfl)) ?_
          refine s_val rfl (v_load Tryz.isAgg3 rfl (cells_rw (f := inI) (E := 3) (sz := 1) (n := L.length) (c := c) rfl inI_len (by decide) hgi 0 _ rfl)) ?_
          refine s_val rfl (v_assign rfl) (s_val rfl (v_assign rfl) (x_nil (n_then (x_ret (x_done (.inl rfl) (.cons (r_tmp rfl) (.cons (r_tmp rfl) .nil)) ?_)))))
          rw [if_neg c1]
          exact ⟨_, ⟨rfl, rfl⟩, ent_rtb rfl rfl⟩
end Go.Proofs.YtncegikenkpcmaaGreat
namespace Go.Proofs.YtncegikenkpcmaaGreat
open Go.RowKit
set_option linter.unusedSimpArgs false
set_option linter.unusedVariables false
abbrev MEn := Int × Value × Nat
def mEnt (p : MEn) : MapEntry := { key := .int .i64 p.1, val := p.2.1, born := p.2.2 }
def mEnts (L : List MEn) : Array MapEntry := (L.map mEnt).toArray
def mget : List MEn → Int → Option Value
  | [], _ => none
  | p :: l, k => if p.1 = k then some p.2.1 else mget l k
def mfind : List MEn → Int → Nat → Option (Nat × Value)
  | [], _, _ => none
  | p :: l, k, i => if p.1 = k then some (i, p.2.1) else mfind l k (i + 1)
theorem findNow_ents (k : Int) : ∀ (L : List MEn) (i : Nat), Instr.findNow (.int .i64) (.int .i64 k) (L.map mEnt) i = some (mfind L k i)
  | [], i => rfl
  | p :: l, i => by
    rw [List.map_cons, Instr.findNow, mfind]
    simp only [mEnt, Instr.sameNow, if_true]
    by_cases h : p.1 = k
    · subst h; simp
    · have h' : (k == p.1) = false := by simpa using fun q => h q.symm
      rw [h', if_neg h]
      exact findNow_ents k l (i + 1)
theorem mfind_none : ∀ {L : List MEn} {k : Int} {i : Nat}, mfind L k i = none → mget L k = none ∧ k ∉ L.map (·.1)
  | [], k, i, _ => ⟨rfl, by simp⟩
  | p :: l, k, i, h => by
    rw [mfind] at h
    by_cases q : p.1 = k
    · rw [if_pos q] at h; cases h
    · rw [if_neg q] at h
      obtain ⟨h1, h2⟩ := mfind_none h
      refine ⟨by rw [mget, if_neg q]; exact h1, ?_⟩
      rw [List.map_cons, List.mem_cons]
      rintro (r | r)
      · exact q r.symm
      · exact h2 r
theorem mfind_some : ∀ {L : List MEn} {k : Int} {i j : Nat} {v : Value}, mfind L k i = some (j, v) → mget L k = some v ∧ ∃ m, j = i + m ∧ m < L.length ∧ (L[m]?).map (·.1) = some k
  | [], k, i, j, v, h => by cases h
  | p :: l, k, i, j, v, h => by
    rw [mfind] at h
    by_cases q : p.1 = k
    · rw [if_pos q] at h
      cases h
      exact ⟨by rw [mget, if_pos q], 0, rfl, by simp, by simp [q]⟩
    · rw [if_neg q] at h
      obtain ⟨h1, m, h2, h3, h4⟩ := mfind_some h
      exact ⟨by rw [mget, if_neg q]; exact h1, m + 1, by omega, by simpa using h3, by simpa using h4⟩
def mset (L : List MEn) (j : Nat) (k : Int) (v : Value) : List MEn := L.modify j fun e => (k, v, e.2.2)
theorem mset_get : ∀ {L : List MEn} {k : Int} {i m : Nat} {w v : Value}, mfind L k i = some (i + m, w) → (mset L m k v).map (·.1) = L.map (·.1) ∧ ∀ k', mget (mset L m k v) k' = if k' = k then some v else mget L k'
  | [], k, i, m, w, v, h => by cases h
  | p :: l, k, i, m, w, v, h => by
    rw [mfind] at h
    by_cases q : p.1 = k
    · rw [if_pos q] at h
      have hm : m = 0 := by
        have := congrArg (fun o => (o.map (·.1)).getD 0) h
        simp at this; omega
      subst hm
      refine ⟨by simp [mset, q], fun k' => ?_⟩
      show mget ((k, v, p.2.2) :: l) k' = _
      rw [mget, mget]
      by_cases r : k' = k
      · rw [if_pos r.symm, if_pos r]
      · rw [if_neg (fun s => r s.symm), if_neg r, if_neg (fun s => r (s.symm.trans q))]
    · rw [if_neg q] at h
      obtain ⟨_, m', h2, _, _⟩ := mfind_some h
      obtain rfl : m = m' + 1 := by omega
      have h3 : mfind l k (i + 1) = some (i + 1 + m', w) := by rw [h, h2]
      obtain ⟨e1, e2⟩ := mset_get (v := v) h3
      refine ⟨?_, fun k' => ?_⟩
      · show p.1 :: (mset l m' k v).map (·.1) = p.1 :: l.map (·.1)
        rw [e1]
      · show mget (p :: mset l m' k v) k' = _
        rw [mget, mget, e2]
        by_cases r : k' = k
        · subst r; simp [q]
        · simp [r]
theorem mpush_get {L : List MEn} {k : Int} {v : Value} {c : Nat} : ∀ (h : k ∉ L.map (·.1)) (k' : Int), mget (L ++ [(k, v, c)]) k' = if k' = k then some v else mget L k' := by
  intro h k'
  induction L with
  | nil =>
    show (if k = k' then some v else none) = _
    by_cases r : k' = k
    · rw [if_pos r.symm, if_pos r]
    · rw [if_neg (fun s => r s.symm), if_neg r]; rfl
  | cons p l ih =>
    rw [List.map_cons, List.mem_cons, not_or] at h
    rw [List.cons_append, mget, mget, ih h.2]
    by_cases r : k' = k
    · subst r
      have h1 : ¬ p.1 = k' := fun s => h.1 s.symm
      simp [h1]
    · simp [r]
theorem mget_not {L : List MEn} {k : Int} (h : k ∉ L.map (·.1)) : mget L k = none := by
  induction L with
  | nil => rfl
  | cons p l ih =>
    rw [List.map_cons, List.mem_cons, not_or] at h
    rw [mget, if_neg (fun s => h.1 s.symm), ih h.2]
theorem merase_get : ∀ {L : List MEn} {k : Int} {i m : Nat} {w : Value}, (L.map (·.1)).Nodup → mfind L k i = some (i + m, w) → ((L.eraseIdx m).map (·.1)).Nodup ∧ ∀ k', mget (L.eraseIdx m) k' = if k' = k then none else mget L k'
  | [], k, i, m, w, _, h => by cases h
  | p :: l, k, i, m, w, hn, h => by
    rw [List.map_cons, List.nodup_cons] at hn
    rw [mfind] at h
    by_cases q : p.1 = k
    · rw [if_pos q] at h
      have hm : m = 0 := by
        have := congrArg (fun o => (o.map (·.1)).getD 0) h
        simp at this; omega
      subst hm
      refine ⟨hn.2, fun k' => ?_⟩
      show mget l k' = _
      rw [mget]
      by_cases r : k' = k
      · rw [if_pos r, r, ← q]; exact mget_not hn.1
      · rw [if_neg r, if_neg (fun s => r (s.symm.trans q))]
    · rw [if_neg q] at h
      obtain ⟨_, m', h2, _, _⟩ := mfind_some h
      obtain rfl : m = m' + 1 := by omega
      have h3 : mfind l k (i + 1) = some (i + 1 + m', w) := by rw [h, h2]
      obtain ⟨e1, e2⟩ := merase_get hn.2 h3
      refine ⟨?_, fun k' => ?_⟩
      · show (p.1 :: (l.eraseIdx m').map (·.1)).Nodup
        rw [List.nodup_cons]
        refine ⟨fun hm => hn.1 ?_, e1⟩
        obtain ⟨x, hx, hxe⟩ := List.mem_map.1 hm
        exact List.mem_map.2 ⟨x, List.mem_of_mem_eraseIdx hx, hxe⟩
      · show mget (p :: l.eraseIdx m') k' = _
        rw [mget, mget, e2]
        by_cases r : k' = k
        · subst r; simp [q]
        · simp [r]
theorem mEnts_set (L : List MEn) (j : Nat) (k : Int) (v : Value) : (mEnts L).modify j (fun e => { e with key := .int .i64 k, val := v }) = mEnts (mset L j k v) := by
  apply Array.ext'
  rw [Array.toList_modify, mEnts, mEnts, mset, List.toList_toArray, List.toList_toArray]
  apply List.ext_getElem?
  intro i
  simp only [List.getElem?_modify, List.getElem?_map]
  cases L[i]? with
  | none => simp
  | some e => by_cases h : j = i <;> simp [h, mEnt]
theorem mEnts_push (L : List MEn) (k : Int) (v : Value) (c : Nat) : (mEnts L).push { key := .int .i64 k, val := v, born := c } = mEnts (L ++ [(k, v, c)]) := by
  apply Array.ext'
  simp [mEnts, mEnt]
theorem mEnts_erase (L : List MEn) (j : Nat) (h : j < L.length) : (mEnts L).eraseIdxIfInBounds j = mEnts (L.eraseIdx j) := by
  apply Array.ext'
  rw [Array.eraseIdxIfInBounds_eq, dif_pos (by simpa [mEnts] using h), Array.toList_eraseIdx, mEnts, mEnts, List.toList_toArray, List.toList_toArray]
  apply List.ext_getElem?
  intro i
  simp only [List.getElem?_eraseIdx, List.getElem?_map]
  split <;> rfl
def mapH (b : Nat) (f : Int → Option Value) : HP := chk (fun C => ∃ (L : List MEn) (clock : Nat), (L.map (·.1)).Nodup ∧ (∀ k, mget L k = f k) ∧ C = [pt b (.map (mEnts L) clock)])
def mupd (f : Int → Option Value) (k : Int) (o : Option Value) : Int → Option Value := fun k' => if k' = k then o else f k'
section
variable {rd : Option Nat} {P : Program} {S : World → Prop} {W0 : World} {N : FSz} {e : Env} {A B R : List HP}
variable {op : Op} {ty t K E : TypeId} {v z : Value} {b : Nat} {x y u : Operand} {f : Int → Option Value} {k : Int}
theorem Own.mapL {w : World} (h : Own W0 w (mapH b f :: R)) : ∃ (L : List MEn) (clock : Nat), (L.map (·.1)).Nodup ∧ (∀ k, mget L k = f k) ∧ Own W0 w (pt b (.map (mEnts L) clock) :: R) := by
  obtain ⟨C, ⟨L, c, h1, h2, rfl⟩, hO⟩ := h.chk
  exact ⟨L, c, h1, h2, hO⟩
theorem ent_mapH {L : List MEn} {c : Nat} (h1 : (L.map (·.1)).Nodup) (h2 : ∀ k, mget L k = f k) : Ent (pt b (.map (mEnts L) c) :: R) (mapH b f :: R) := ent_chk (R := R) (C := [_]) ⟨L, c, h1, h2, rfl⟩
theorem run_checkKey {w : World} {em : Bool} (hK : P.underlying K = some (.int .i64)) : (Instr.checkKey em 10000 K (.int .i64 k)).run P w = .ok () w := by
  exact MapKept.run_checkKey hK (by trivial) em 9999
theorem run_findKey {w : World} (hK : P.underlying K = some (.int .i64)) (L : List MEn) : (Instr.findKey K (.int .i64 k) (mEnts L).toList).run P w = .ok (mfind L k 0) w := by
  simp only [Instr.findKey, Sem.run_bind, run_und hK, Result.andThen_ok, mEnts, List.toList_toArray, findNow_ents, Sem.run_pure]
theorem q_map_nil {d : Nat} {m : Option Nat} (hu : P.underlying t = some (.map K E)) : EqN P (d + 1) t (.map m) (.map none) m.isNone := fun w => by
  cases m <;> simp [Op.equalIn, run_und hu]
theorem v_eql_map_nil {t' : TypeId} {m : Option Nat} (hu : P.underlying t = some (.map K E)) (hx : ev e x = some (.map m)) (hy : ev e y = some (.map none)) : Val P S N e (.binOp .eql t x y t') (.bool m.isNone) :=
  binVal hx hy (fun w x y => by simp [eqGuard]) (run_eql rfl (q_map_nil hu))
theorem v_lookup [h : Tk mapH b A f R] (hu : P.underlying t = some (.map K E)) (hK : P.underlying K = some (.int .i64)) (hz : ∀ w, (zeroValue E).run P w = .ok z w) (hx : ev e x = some (.map (some b))) (hy : ev e y = some (.int .i64 k)) :
    Val P (OwnP W0 A) N e (.lookup t x y false) ((f k).getD z) := fun a w _ _ _ _ _ hF hO => by
  obtain ⟨L, c, h1, h2, hO1⟩ := Own.mapL (Own.tk (r := mapH) (b := b) hO)
  have hb := hO1.has.2
  have hg := h2 k
  have hrun : (Instr.lookup t (.map (some b)) (.int .i64 k) false).run P w = .ok ((f k).getD z) w := by
    simp only [Instr.lookup, Sem.run_bind, Sem.run_pure, run_und hu, Result.andThen_ok, MapKept.run_getObj_map hb, run_checkKey hK, run_findKey hK]
    cases hm : mfind L k 0 with
    | none =>
      rw [(mfind_none hm).1] at hg
      rw [← hg]
      simp [hz]
    | some p =>
      obtain ⟨j, v⟩ := p
      rw [(mfind_some hm).1] at hg
      rw [← hg]
      simp
  simp only [execOp, hF.eval hx, hF.eval hy, Sem.run_bind, hrun, Result.andThen_ok, Sem.run_pure]
theorem v_lookupV [h : Tk mapH b A f R] (hu : P.underlying t = some (.map K E)) (hK : P.underlying K = some (.int .i64)) (hz : ∀ w, (zeroValue E).run P w = .ok z w) (hx : ev e x = some (.map (some b))) (hy : ev e y = some (.int .i64 k)) (hv : (f k).getD z = v) :
    Val P (OwnP W0 A) N e (.lookup t x y false) v := hv ▸ v_lookup hu hK hz hx hy
theorem d_makeMap : Does P W0 N e A (.makeMap t none) (fun v B => ∃ b, v = .map (some b) ∧ B = mapH b (fun _ => none) :: A) := does_run fun a w _ _ _ _ _ hF hO => by
  refine ⟨_, w.alloc (.map #[] 0), _, .inl ?_, ⟨w.heap.size, rfl, rfl⟩, ?_⟩
  · simp [execOp, Instr.makeMap, newObj, Sem.run]
  · have hn := hO.new (.map (mEnts []) 0)
    exact hn.ent (ent_mapH (L := []) (by simp) (fun _ => rfl))
theorem d_mapUpdate [h : Tk mapH b A f R] (hu : P.underlying t = some (.map K E)) (hK : P.underlying K = some (.int .i64)) (hx : ev e x = some (.map (some b))) (hy : ev e y = some (.int .i64 k)) (hv : ev e u = some v) :
    Does P W0 N e A (.mapUpdate t x y u) (fun _ B => B = mapH b (mupd f k (some v)) :: R) := does_run fun a w _ _ _ _ _ hF hO => by
  obtain ⟨L, c, h1, h2, hO1⟩ := Own.mapL (Own.tk (r := mapH) (b := b) hO)
  have hb := hO1.has.2
  have hlt : b < w.heap.size := by
    rcases Nat.lt_or_ge b w.heap.size with q | q
    · exact q
    · rw [Array.getElem?_eq_none q] at hb; cases hb
  cases hm : mfind L k 0 with
  | none =>
    obtain ⟨g1, g2⟩ := mfind_none hm
    refine ⟨_, w.putObj b (.map ((mEnts L).push { key := .int .i64 k, val := v, born := c }) (c + 1)), _, .inr ⟨?_, rfl⟩, rfl, ?_⟩
    · simp only [execOp, hF.eval hx, hF.eval hy, hF.eval hv, Instr.mapUpdate, Sem.run_bind, Sem.run_pure, run_und hu, Result.andThen_ok, MapKept.run_getObj_map hb, MapKept.run_setObj_map _ hb, run_checkKey hK, run_findKey hK, hm]
      simp [World.putObj, hlt]
    · rw [mEnts_push]
      refine (hO1.turn _).ent (ent_mapH ?_ fun k' => ?_)
      · rw [List.map_append]
        exact List.nodup_append.2 ⟨h1, by simp, fun a ha b hb => by
          simp at hb; subst hb
          intro q; subst q; exact g2 ha⟩
      · rw [mpush_get g2, h2]; rfl
  | some p =>
    obtain ⟨j, v0⟩ := p
    obtain ⟨g1, m, g2, g3, g5⟩ := mfind_some hm
    obtain rfl : j = m := by omega
    have g4 : mfind L k 0 = some (0 + j, v0) := by rw [Nat.zero_add]; exact hm
    obtain ⟨e1, e2⟩ := mset_get (v := v) g4
    have hkey : (((mEnts L)[j]?).map (·.key)).getD (.int .i64 k) = .int .i64 k := by
      rw [mEnts, List.getElem?_toArray, List.getElem?_map]
      cases hq : L[j]? with
      | none => rw [hq] at g5; cases g5
      | some q => rw [hq] at g5; simp at g5; simp [mEnt, g5]
    refine ⟨_, w.putObj b (.map ((mEnts L).modify j fun e => { e with key := .int .i64 k, val := v }) c), _, .inr ⟨?_, rfl⟩, rfl, ?_⟩
    · simp only [execOp, hF.eval hx, hF.eval hy, hF.eval hv, Instr.mapUpdate, Sem.run_bind, Sem.run_pure, run_und hu, Result.andThen_ok, MapKept.run_getObj_map hb, MapKept.run_setObj_map _ hb, run_checkKey hK, run_findKey hK, hm, hkey, Instr.keyThatStays]
      simp [World.putObj, hlt, Instr.sameBits, MapKept.run_setObj_map _ hb]
    · rw [mEnts_set]
      exact (hO1.turn _).ent (ent_mapH (by rw [e1]; exact h1) fun k' => by rw [e2, h2]; rfl)
theorem d_delete [h : Tk mapH b A f R] {t' : TypeId} (hu : P.underlying t = some (.map K E)) (hK : P.underlying K = some (.int .i64)) (hx : ev e x = some (.map (some b))) (hy : ev e y = some (.int .i64 k)) :
    Does P W0 N e A (.call { callee := .builtin .delete, args := #[x, y], argTypes := #[t, t'] }) (fun v B => v = .tuple #[] ∧ B = mapH b (mupd f k none) :: R) := does_run fun a w _ _ _ _ _ hF hO => by
  obtain ⟨L, c, h1, h2, hO1⟩ := Own.mapL (Own.tk (r := mapH) (b := b) hO)
  have hb := hO1.has.2
  have hlt : b < w.heap.size := by
    rcases Nat.lt_or_ge b w.heap.size with q | q
    · exact q
    · rw [Array.getElem?_eq_none q] at hb; cases hb
  cases hm : mfind L k 0 with
  | none =>
    obtain ⟨g1, g2⟩ := mfind_none hm
    refine ⟨_, w.putObj b (.map (mEnts L) c), _, .inl ?_, ⟨rfl, rfl⟩, ?_⟩
    · simp only [execOp, resolve, invoke, builtin, List.map_toArray, List.map_cons, List.map_nil, hF.eval hx, hF.eval hy, Builtin.delete_, List.getElem?_toArray, List.getElem?_cons_zero, List.getElem?_cons_succ, Sem.run_bind, Sem.run_pure, run_und hu, Result.andThen_ok, MapKept.run_getObj_map hb, MapKept.run_setObj_map _ hb, run_checkKey hK, run_findKey hK, hm]
      simp [World.putObj, hlt]
    · refine (hO1.turn _).ent (ent_mapH h1 fun k' => ?_)
      rw [h2]
      show f k' = if k' = k then none else f k'
      by_cases q : k' = k
      · rw [if_pos q, q, ← h2]; exact g1
      · rw [if_neg q]
  | some p =>
    obtain ⟨j, v0⟩ := p
    obtain ⟨g1, m, g2, g3, g5⟩ := mfind_some hm
    obtain rfl : j = m := by omega
    have g4 : mfind L k 0 = some (0 + j, v0) := by rw [Nat.zero_add]; exact hm
    obtain ⟨e1, e2⟩ := merase_get h1 g4
    refine ⟨_, w.putObj b (.map ((mEnts L).eraseIdxIfInBounds j) c), _, .inl ?_, ⟨rfl, rfl⟩, ?_⟩
    · simp only [execOp, resolve, invoke, builtin, List.map_toArray, List.map_cons, List.map_nil, hF.eval hx, hF.eval hy, Builtin.delete_, List.getElem?_toArray, List.getElem?_cons_zero, List.getElem?_cons_succ, Sem.run_bind, Sem.run_pure, run_und hu, Result.andThen_ok, MapKept.run_getObj_map hb, MapKept.run_setObj_map _ hb, run_checkKey hK, run_findKey hK, hm]
      simp [World.putObj, hlt]
    · rw [mEnts_erase _ _ g3]
      exact (hO1.turn _).ent (ent_mapH e1 fun k' => by rw [e2, h2]; rfl)
end
end Go.Proofs.YtncegikenkpcmaaGreat
namespace Go.Proofs.YtncegikenkpcmaaGreat
open Go.RowKit
set_option linter.unusedSimpArgs false
set_option linter.unusedVariables false
set_option maxRecDepth 20000
theorem ofInt64_nat {a : Nat} (h : a < 9223372036854775808) : (BitVec.ofInt 64 (a : Int)).toNat = a := by
  rw [BitVec.toNat_ofInt]; omega
theorem bAnd_i64 {a b : Nat} (ha : a < 9223372036854775808) (hb : b < 9223372036854775808) : bAnd .i64 a b = ((a &&& b : Nat) : Int) := by
  have h : a &&& b < 9223372036854775808 := Nat.lt_of_le_of_lt Nat.and_le_left ha
  show IntKind.wrap .i64 ((BitVec.ofInt 64 (a : Int) &&& BitVec.ofInt 64 (b : Int)).toNat : Int) = _
  rw [BitVec.toNat_and, ofInt64_nat ha, ofInt64_nat hb, w64 (by omega)]
theorem bAndNot_i64 {a b : Nat} (ha : a < 9223372036854775808) (hb : b < 9223372036854775808) : bAndNot .i64 a b = ((a - (a &&& b) : Nat) : Int) := by
  have hle : a &&& b ≤ a := Nat.and_le_left
  generalize hx : BitVec.ofInt 64 (a : Int) = x
  generalize hy : BitVec.ofInt 64 (b : Int) = y
  have ex : x.toNat = a := by rw [← hx]; exact ofInt64_nat ha
  have ey : y.toNat = b := by rw [← hy]; exact ofInt64_nat hb
  have e : (x &&& ~~~ y).toNat = a - (a &&& b) := by
    have hz : (x &&& ~~~ y) &&& (x &&& y) = 0#64 := by
      ext i hi
      simp only [BitVec.getElem_and, BitVec.getElem_not, BitVec.getElem_zero]
      cases x[i] <;> cases y[i] <;> rfl
    have h1 : (x &&& ~~~ y) + (x &&& y) = x := by
      rw [BitVec.add_eq_or_of_and_eq_zero _ _ hz]
      ext i hi
      simp only [BitVec.getElem_or, BitVec.getElem_and, BitVec.getElem_not]
      cases x[i] <;> cases y[i] <;> rfl
    have h2 := congrArg BitVec.toNat h1
    rw [BitVec.toNat_add_of_and_eq_zero hz, BitVec.toNat_and x y, ex, ey] at h2
    omega
  show IntKind.wrap .i64 ((BitVec.ofInt 64 (a : Int) &&& ~~~ BitVec.ofInt 64 (b : Int)).toNat : Int) = _
  rw [hx, hy, e, w64 (by omega)]
def isL (l : Int) : Bool := decide (0 ≤ l ∧ l < 256)
theorem isL_iff {l : Int} : isL l = true ↔ 0 ≤ l ∧ l < 256 := by simp [isL]
def flB (a b : Int) : Bool := isL a && isL b && decide (a.toNat - (a.toNat &&& b.toNat) = 0)
theorem flB_no {a b : Int} (h : ¬ (isL a = true ∧ isL b = true)) : flB a b = false := by
  rw [← Bool.not_eq_true]; intro q
  simp only [flB, Bool.and_eq_true] at q
  exact h q.1
theorem and_self_iff {a b : Nat} (ha : a < 256) : a - (a &&& b) = 0 ↔ ∀ c, c < 8 → a.testBit c = true → b.testBit c = true := by
  have hle : a &&& b ≤ a := Nat.and_le_left
  constructor
  · intro h c _ hc
    have e : a &&& b = a := by omega
    have := congrArg (fun n => n.testBit c) e
    simp only [Nat.testBit_and, hc, Bool.true_and] at this
    exact this
  · intro h
    have e : a &&& b = a := by
      apply Nat.eq_of_testBit_eq
      intro i
      rw [Nat.testBit_and]
      by_cases hi : i < 8
      · cases ha' : a.testBit i with
        | false => rfl
        | true => rw [h i hi ha']; rfl
      · have : a.testBit i = false := Nat.testBit_lt_two_pow (Nat.lt_of_lt_of_le ha (Nat.pow_le_pow_right (n := 2) (by decide) (show 8 ≤ i by omega)))
        rw [this]; rfl
    omega
theorem lbIs_spec (W0 : World) (R : List HP) (l : Int) : Spec Tryz.prog W0 109 [.int .i64 l] R (fun v B => v = .bool (isL l) ∧ B = R) := by
  refine spec_body Tryz.func109 Tryz.ntmps109 rfl rfl ?_
  refine x_seq (x_region (s_val rfl (v_assign rfl) (x_nil (n_then (x_seq (x_region (s_val rfl (v_move rfl) (s_val rfl (v_geq rfl rfl) (s_val rfl (v_move rfl) ?_)))))))))
  refine s_and rfl rfl rfl ?_ ?_
  · intro g1_3
    refine s_val rfl (v_move rfl) (s_yes rfl rfl (s_val rfl (v_leq rfl rfl) (s_val rfl (v_pick_t rfl rfl) (s_val rfl (v_assign rfl) (x_nil (n_then (x_ret (x_done (.inl rfl) (.cons (r_tmp rfl) .nil) ?_))))))))
    refine ⟨_, ⟨?_, rfl⟩, inferInstance⟩
    refine congrArg Value.bool ?_
    rw [Bool.eq_iff_iff]; simp only [isL, decide_eq_true_eq, Bool.false_eq_true, false_iff]; omega
  · intro g1_3
    refine s_no rfl rfl rfl rfl (s_val rfl (v_pick_f rfl rfl) (s_val rfl (v_assign rfl) (x_nil (n_then (x_ret (x_done (.inl rfl) (.cons (r_tmp rfl) .nil) ?_))))))
    refine ⟨_, ⟨?_, rfl⟩, inferInstance⟩
    refine congrArg Value.bool ?_
    rw [Bool.eq_iff_iff]; simp only [isL, decide_eq_true_eq, Bool.false_eq_true, false_iff]; omega
theorem lbFlows_spec (W0 : World) (R : List HP) (a b : Int) : Spec Tryz.prog W0 39 [.int .i64 a, .int .i64 b] R (fun v B => v = .bool (flB a b) ∧ B = R) := by
  refine spec_body Tryz.func39 Tryz.ntmps39 rfl rfl ?_
  refine x_seq (x_region (s_val rfl (v_assign rfl) (x_nil (n_then (x_seq (x_region (s_val rfl (v_move rfl) (s_do rfl (d_call Tryz.call109 rfl (lbIs_spec W0 _ a)) ?_))))))))
  rintro _ B_ ⟨rfl, hB_⟩
  obtain rfl := hB_.symm
  refine s_val rfl (v_move rfl) ?_
  refine s_and rfl rfl rfl ?_ ?_
  · intro g1_3
    refine s_val rfl (v_move rfl) (s_yes rfl rfl (s_do rfl (d_call Tryz.call109 rfl (lbIs_spec W0 _ b)) ?_))
    rintro _ B_ ⟨rfl, hB_⟩
    obtain rfl := hB_.symm
    refine s_val rfl (v_pick_t rfl rfl) (s_val rfl (v_move rfl) ?_)
    refine s_and rfl rfl rfl ?_ ?_
    · intro g1_7
      obtain ⟨x, rfl, hx⟩ : ∃ x : Nat, a = (x : Int) ∧ x < 256 := ⟨a.toNat, by have := isL_iff.1 g1_3; omega, by have := isL_iff.1 g1_3; omega⟩
      obtain ⟨y, rfl, hy⟩ : ∃ y : Nat, b = (y : Int) ∧ y < 256 := ⟨b.toNat, by have := isL_iff.1 g1_7; omega, by have := isL_iff.1 g1_7; omega⟩
      refine s_val rfl (v_move rfl) (s_yes rfl rfl (s_val rfl (v_move rfl) (s_yes rfl rfl ?_)))
      refine s_val rfl (v_andNot rfl rfl (bAndNot_i64 (by omega) (by omega))) ?_
      refine s_yes rfl rfl (s_val rfl (v_eql rfl rfl) (s_val rfl (v_pick_t rfl rfl) (s_val rfl (v_assign rfl) (x_nil (n_then (x_ret (x_done (.inl rfl) (.cons (r_tmp rfl) .nil) ?_)))))))
      refine ⟨_, ⟨?_, rfl⟩, inferInstance⟩
      first
        | (rw [hno]; rfl)
        | (refine congrArg Value.bool ?_
           rw [Bool.eq_iff_iff, beq_iff_eq, flB, g1_3, g1_7, Int.toNat_natCast, Int.toNat_natCast]
           simp only [Bool.and_self, Bool.true_and, decide_eq_true_iff]
           omega)
    · intro g1_7
      have hno := flB_no (a := a) (b := b) (fun q => g1_7 q.2)
      refine s_no rfl rfl rfl rfl (s_no rfl rfl rfl rfl (s_no rfl rfl rfl rfl (s_val rfl (v_pick_f rfl rfl) (s_val rfl (v_assign rfl) (x_nil (n_then (x_ret (x_done (.inl rfl) (.cons (r_tmp rfl) .nil) ?_))))))))
      refine ⟨_, ⟨?_, rfl⟩, inferInstance⟩
      first
        | (rw [hno]; rfl)
        | (refine congrArg Value.bool ?_
           rw [Bool.eq_iff_iff, beq_iff_eq, flB, g1_3, g1_7, Int.toNat_natCast, Int.toNat_natCast]
           simp only [Bool.and_self, Bool.true_and, decide_eq_true_iff]
           omega)
  · intro g1_3
    have hno := flB_no (a := a) (b := b) (fun q => g1_3 q.1)
    refine s_no rfl rfl rfl rfl (s_val rfl (v_pick_f rfl rfl) (s_val rfl (v_move rfl) (s_no rfl rfl rfl rfl (s_no rfl rfl rfl rfl (s_no rfl rfl rfl rfl (s_no rfl rfl rfl rfl (s_val rfl (v_pick_f rfl rfl) (s_val rfl (v_assign rfl) (x_nil (n_then (x_ret (x_done (.inl rfl) (.cons (r_tmp rfl) .nil) ?_))))))))))))
    refine ⟨_, ⟨?_, rfl⟩, inferInstance⟩
    first
      | (rw [hno]; rfl)
      | (refine congrArg Value.bool ?_
         rw [Bool.eq_iff_iff, beq_iff_eq, flB, g1_3, g1_7, Int.toNat_natCast, Int.toNat_natCast]
         simp only [Bool.and_self, Bool.true_and, decide_eq_true_iff]
         omega)
theorem lbCount_spec (W0 : World) (R : List HP) (l : Int) : Spec Tryz.prog W0 75 [.int .i64 l] R (fun v B => ∃ n : Int, v = .int .i64 n ∧ (decide (n < 0) = !isL l) ∧ B = R) := by
  refine spec_body Tryz.func75 Tryz.ntmps75 rfl rfl ?_
  refine x_seq (x_region (s_val rfl (v_assign rfl) (x_nil (n_then (x_seq (x_seq (x_region (s_val rfl (v_move rfl) (s_do rfl (d_call Tryz.call109 rfl (lbIs_spec W0 _ l)) ?_)))))))))
  rintro _ B_ ⟨rfl, hB_⟩
  obtain rfl := hB_.symm
  refine s_val rfl (v_not rfl) (x_nil (n_then ?_))
  refine x_if rfl ?_ ?_
  · intro c1
    refine x_seq (x_region (s_val rfl (v_assign rfl) (x_nil (n_then (x_ret (r_then (x_done (.inl rfl) (.cons (r_tmp rfl) .nil) ?_)))))))
    have h : isL l = false := by simpa using c1
    exact ⟨_, ⟨-1, rfl, by rw [h]; rfl, rfl⟩, inferInstance⟩
  · intro c1
    have hl : isL l = true := Decidable.not_not.1 c1
    obtain ⟨x, rfl, hx⟩ : ∃ x : Nat, l = (x : Int) ∧ x < 256 := ⟨l.toNat, by have := isL_iff.1 hl; omega, by have := isL_iff.1 hl; omega⟩
    refine x_skip (n_then (x_seq (x_region (s_val rfl (v_assign rfl) (x_nil (n_then (x_seq (x_block ?_))))))))
    refine x_loop (fun X : Nat × Nat => X.1 + X.2 ≤ 256) (fun X => [(0, .int .i64 X.1), (3, .int .i64 X.2)]) (fun X => R) (fun X => X.1) (x, 0) ?_ ?_ ?_ ?_
    · show x + 0 ≤ 256; omega
    · repeat (first | exact sub_nil | refine sub_cons rfl ?_)
    · exact inferInstance
    · intro ⟨k, n⟩ hk
      dsimp only at hk ⊢
      refine x_seq (x_seq (x_region (s_val rfl (v_move rfl) (s_val rfl (v_neq rfl rfl) (x_nil (n_then ?_))))))
      refine x_if rfl ?_ ?_
      · intro c4
        have hk0 : 0 < k := by omega
        have hlt : k &&& (k - 1) ≤ k - 1 := Nat.and_le_right
        refine x_skip (n_then (x_seq (x_block (x_region (s_val rfl (v_move rfl) ?_)))))
        refine s_val rfl (v_add rfl rfl (by rw [w64 (by omega)]; omega : IntKind.wrap .i64 ((n : Int) + 1) = ((n + 1 : Nat) : Int))) ?_
        refine s_val rfl (v_assign rfl) (x_nil (n_block (n_then (x_region (s_val rfl (v_move rfl) (s_val rfl (v_move rfl) ?_))))))
        refine s_val rfl (v_sub rfl rfl (by rw [w64 (by omega)]; omega : IntKind.wrap .i64 ((k : Int) - 1) = ((k - 1 : Nat) : Int))) ?_
        refine s_val rfl (v_and rfl rfl (bAnd_i64 (by omega) (by omega))) ?_
        refine s_val rfl (v_assign rfl) (x_nil (n_then ?_))
        refine inv_intro (k &&& (k - 1), n + 1) ?_ ?_ ?_ ?_
        · show (k &&& (k - 1)) + (n + 1) ≤ 256; omega
        · show k &&& (k - 1) < k; omega
        · repeat (first | exact sub_nil | refine sub_cons rfl ?_)
        · exact inferInstance
      · intro c4
        refine x_exit (e_then (e_then (e_block (n_then (x_seq (x_region (s_val rfl (v_move rfl) (s_val rfl (v_assign rfl) (x_nil (n_then (x_ret (x_done (.inl rfl) (.cons (r_tmp rfl) .nil) ?_))))))))))))
        exact ⟨_, ⟨(n : Int), rfl, by rw [hl]; simp, rfl⟩, inferInstance⟩
theorem rlIs_spec (W0 : World) (R : List HP) (l : Int) : Spec Tryz.prog W0 78 [.int .i64 l] R (fun v B => v = .bool (isL l) ∧ B = R) := by
  refine spec_body Tryz.func78 Tryz.ntmps78 rfl rfl ?_
  refine x_seq (x_region (s_val rfl (v_assign rfl) (x_nil (n_then (x_seq (x_region (s_val rfl (v_move rfl) (s_val rfl (v_geq rfl rfl) (s_val rfl (v_move rfl) ?_)))))))))
  refine s_and rfl rfl rfl ?_ ?_
  · intro g1_3
    refine s_val rfl (v_move rfl) (s_yes rfl rfl (s_val rfl (v_lss rfl rfl) (s_val rfl (v_pick_t rfl rfl) (s_val rfl (v_assign rfl) (x_nil (n_then (x_ret (x_done (.inl rfl) (.cons (r_tmp rfl) .nil) ?_))))))))
    refine ⟨_, ⟨?_, rfl⟩, inferInstance⟩
    refine congrArg Value.bool ?_
    rw [Bool.eq_iff_iff]; simp only [isL, decide_eq_true_eq, Bool.false_eq_true, false_iff]; omega
  · intro g1_3
    refine s_no rfl rfl rfl rfl (s_val rfl (v_pick_f rfl rfl) (s_val rfl (v_assign rfl) (x_nil (n_then (x_ret (x_done (.inl rfl) (.cons (r_tmp rfl) .nil) ?_))))))
    refine ⟨_, ⟨?_, rfl⟩, inferInstance⟩
    refine congrArg Value.bool ?_
    rw [Bool.eq_iff_iff]; simp only [isL, decide_eq_true_eq, Bool.false_eq_true, false_iff]; omega
theorem rlHas_spec (W0 : World) (R : List HP) (l c : Nat) (hl : l < 256) (hc : c < 8) : Spec Tryz.prog W0 111 [.int .i64 l, .int .i64 c] R (fun v B => v = .bool (l.testBit c) ∧ B = R) := by
  have hd : l / 2 ^ c < 256 := Nat.lt_of_le_of_lt (Nat.div_le_self _ _) hl
  refine spec_body Tryz.func111 Tryz.ntmps111 rfl rfl ?_
  refine x_seq (x_region (s_val rfl (v_assign rfl) (x_nil (n_then (x_seq (x_region (s_val rfl (v_move rfl) (s_val rfl (v_move rfl) ?_))))))))
  refine s_val rfl (v_shr rfl rfl (by omega) (bShr_nat (k := .i64) (a := l) (s := c) (by show c ≤ 64; omega))) ?_
  refine s_val rfl (v_and rfl rfl (bAnd_i64 (a := l / 2 ^ c) (b := 1) (by omega) (by decide))) ?_
  refine s_val rfl (v_eql rfl rfl) (s_val rfl (v_assign rfl) (x_nil (n_then (x_ret (x_done (.inl rfl) (.cons (r_tmp rfl) .nil) ?_)))))
  refine ⟨_, ⟨?_, rfl⟩, inferInstance⟩
  refine congrArg Value.bool ?_
  rw [Bool.eq_iff_iff, beq_iff_eq, show (l / 2 ^ c) &&& 1 = l / 2 ^ c % 2 from and_low (a := l / 2 ^ c) (n := 1), Nat.testBit_eq_decide_div_mod_eq, decide_eq_true_iff]
  omega
theorem rlFlows_spec (W0 : World) (R : List HP) (a b : Int) : Spec Tryz.prog W0 41 [.int .i64 a, .int .i64 b] R (fun v B => v = .bool (flB a b) ∧ B = R) := by
  refine spec_body Tryz.func41 Tryz.ntmps41 rfl rfl ?_
  refine x_seq (x_region (s_val rfl (v_assign rfl) (x_nil (n_then (x_seq (x_seq (x_region (s_val rfl (v_move rfl) (s_do rfl (d_call Tryz.call78 rfl (rlIs_spec W0 _ a)) ?_)))))))))
  rintro _ B_ ⟨rfl, hB_⟩
  obtain rfl := hB_.symm
  refine s_val rfl (v_not rfl) (s_val rfl (v_move rfl) ?_)
  refine s_or rfl rfl rfl ?_ ?_
  · intro g1_4
    refine s_no rfl rfl rfl rfl (s_no rfl rfl rfl rfl (s_val rfl (v_pick_t rfl rfl) (x_nil (n_then (x_ift rfl (x_seq (x_region (s_val rfl (v_assign rfl) (x_nil (n_then (x_ret (r_then (x_done (.inl rfl) (.cons (r_tmp rfl) .nil) ?_)))))))))))))
    refine ⟨_, ⟨?_, rfl⟩, inferInstance⟩
    rw [flB_no (fun q => by simp_all)]; rfl
  · intro g1_4
    refine s_val rfl (v_move rfl) (s_yes rfl rfl (s_do rfl (d_call Tryz.call78 rfl (rlIs_spec W0 _ b)) ?_))
    rintro _ B_ ⟨rfl, hB_⟩
    obtain rfl := hB_.symm
    refine s_yes rfl rfl (s_val rfl (v_not rfl) (s_val rfl (v_pick_f rfl rfl) (x_nil (n_then ?_))))
    refine x_if rfl ?_ ?_
    · intro c1
      refine x_seq (x_region (s_val rfl (v_assign rfl) (x_nil (n_then (x_ret (r_then (x_done (.inl rfl) (.cons (r_tmp rfl) .nil) ?_)))))))
      refine ⟨_, ⟨?_, rfl⟩, inferInstance⟩
      rw [flB_no (fun q => by simp_all)]; rfl
    · intro c1
      have ha : isL a = true := by simpa using g1_4
      have hb : isL b = true := by simpa using c1
      obtain ⟨x, rfl, hx⟩ : ∃ x : Nat, a = (x : Int) ∧ x < 256 := ⟨a.toNat, by have := isL_iff.1 ha; omega, by have := isL_iff.1 ha; omega⟩
      obtain ⟨y, rfl, hy⟩ : ∃ y : Nat, b = (y : Int) ∧ y < 256 := ⟨b.toNat, by have := isL_iff.1 hb; omega, by have := isL_iff.1 hb; omega⟩
      refine x_skip (n_then (x_seq (x_seq (x_region (s_val rfl (v_assign rfl) (x_nil (n_then (x_block ?_))))))))
      refine x_loop (fun i : Nat => i ≤ 8 ∧ ∀ c, c < i → x.testBit c = true → y.testBit c = true) (fun i => [(0, .int .i64 x), (1, .int .i64 y), (5, .int .i64 i)]) (fun i => R) (fun i => 8 - i) 0 ?_ ?_ ?_ ?_
      · exact ⟨Nat.zero_le _, fun c h => absurd h (Nat.not_lt_zero _)⟩
      · repeat (first | exact sub_nil | refine sub_cons rfl ?_)
      · exact inferInstance
      · intro i ⟨hi, hI⟩
        refine x_seq (x_seq (x_region (s_val rfl (v_move rfl) (s_val rfl (v_lss rfl rfl) (x_nil (n_then ?_))))))
        refine x_if rfl ?_ ?_
        · intro c4
          refine x_skip (n_then (x_seq (x_block (x_seq (x_region (s_val rfl (v_move rfl) (s_val rfl (v_move rfl) ?_)))))))
          refine s_do rfl (d_call Tryz.call111 rfl (rlHas_spec W0 _ x i hx (by omega))) ?_
          rintro _ B_ ⟨rfl, hB_⟩
          obtain rfl := hB_.symm
          refine s_val rfl (v_move rfl) ?_
          refine s_and rfl rfl rfl ?_ ?_
          · intro g6_4
            refine s_val rfl (v_move rfl) (s_yes rfl rfl (s_val rfl (v_move rfl) (s_yes rfl rfl ?_)))
            refine s_do rfl (d_call Tryz.call111 rfl (rlHas_spec W0 _ y i hy (by omega))) ?_
            rintro _ B_ ⟨rfl, hB_⟩
            obtain rfl := hB_.symm
            refine s_yes rfl rfl (s_val rfl (v_not rfl) (s_val rfl (v_pick_t rfl rfl) (x_nil (n_then ?_))))
            refine x_if rfl ?_ ?_
            · intro c6
              refine x_seq (x_region (s_val rfl (v_assign rfl) (x_nil (n_then (x_ret (r_block (r_then (r_then (r_block (r_then (x_done (.inl rfl) (.cons (r_tmp rfl) .nil) ?_)))))))))))
              refine ⟨_, ⟨?_, rfl⟩, inferInstance⟩
              refine congrArg Value.bool (Eq.symm ?_)
              rw [← Bool.not_eq_true, flB]
              intro q
              simp only [Bool.and_eq_true, decide_eq_true_iff, Int.toNat_natCast] at q
              exact c6 ((and_self_iff hx).1 q.2 i (by omega) g6_4)
            · intro c6
              refine x_skip (n_block (n_then (x_region (s_val rfl (v_move rfl) ?_))))
              refine s_val rfl (v_add rfl rfl (by first | exact w64 (by omega) | rfl)) ?_
              refine s_val rfl (v_assign rfl) (x_nil (n_then ?_))
              refine inv_intro (i + 1) ?_ ?_ ?_ ?_
              · refine ⟨by omega, fun c hc h => ?_⟩
                by_cases e : c = i
                · subst e
                  first
                    | exact Decidable.not_not.1 c6
                    | exact absurd h g6_4
                · exact hI c (by omega) h
              · omega
              · repeat (first | exact sub_nil | refine sub_cons rfl ?_)
              · exact inferInstance
          · intro g6_4
            refine s_no rfl rfl rfl rfl (s_no rfl rfl rfl rfl (s_no rfl rfl rfl rfl (s_val rfl (v_pick_f rfl rfl) (x_nil (n_then (x_iff rfl (x_skip (n_block (n_then (x_region (s_val rfl (v_move rfl) ?_)))))))))))
            refine s_val rfl (v_add rfl rfl (by first | exact w64 (by omega) | rfl)) ?_
            refine s_val rfl (v_assign rfl) (x_nil (n_then ?_))
            refine inv_intro (i + 1) ?_ ?_ ?_ ?_
            · refine ⟨by omega, fun c hc h => ?_⟩
              by_cases e : c = i
              · subst e
                first
                  | exact Decidable.not_not.1 c6
                  | exact absurd h g6_4
              · exact hI c (by omega) h
            · omega
            · repeat (first | exact sub_nil | refine sub_cons rfl ?_)
            · exact inferInstance
        · intro c4
          refine x_exit (e_then (e_then (e_block (n_then (x_seq (x_region (s_val rfl (v_assign rfl) (x_nil (n_then (x_ret (x_done (.inl rfl) (.cons (r_tmp rfl) .nil) ?_)))))))))))
          refine ⟨_, ⟨?_, rfl⟩, inferInstance⟩
          refine congrArg Value.bool (Eq.symm ?_)
          rw [flB, ha, hb]
          simp only [Bool.and_self, Bool.true_and, decide_eq_true_iff, Int.toNat_natCast]
          exact (and_self_iff hx).2 fun c hc => hI c (by omega)
end Go.Proofs.YtncegikenkpcmaaGreat
namespace Go.Proofs.YtncegikenkpcmaaGreat
open Go.RowKit
set_option linter.unusedSimpArgs false
set_option linter.unusedVariables false
section
variable {P : Program} {S : World → Prop} {W0 : World} {N : FSz} {e : Env} {A R : List HP} {t t' ty : TypeId} {b off : Nat} {x y : Operand} {l l' : List Value}
theorem eqItems_ints {E : TypeId} {k k' : IntKind} (ha : ∀ w, (isAgg E).run P w = .ok false w) (he : P.underlying E = some (.int k')) (D : Nat) (w : World) :
    ∀ (m s : Nat) (ms ns : List Int), ms.length = s + m → ns.length = s + m →
      (Op.eqItems (D + 1) E 1 (ms.map (Value.int k)).toArray (ns.map (Value.int k)).toArray (List.range' s m)).run P w = .ok (ms.drop s == ns.drop s) w
  | 0, s, ms, ns, h1, h2 => by
    rw [show ms.drop s = [] from List.drop_eq_nil_of_le (by omega), show ns.drop s = [] from List.drop_eq_nil_of_le (by omega)]
    simp [Op.eqItems]
  | m + 1, s, ms, ns, h1, h2 => by
    have e1 : (ms.map (Value.int k))[s]? = some (.int k ms[s]) := by simp [show s < ms.length by omega]
    have e2 : (ns.map (Value.int k))[s]? = some (.int k ns[s]) := by simp [show s < ns.length by omega]
    have d1 : ms.drop s = ms[s] :: ms.drop (s + 1) := List.drop_eq_getElem_cons (by omega)
    have d2 : ns.drop s = ns[s] :: ns.drop (s + 1) := List.drop_eq_getElem_cons (by omega)
    have ih := eqItems_ints (k := k) ha he D w m (s + 1) ms ns (by omega) (by omega)
    rw [List.range'_succ, d1, d2]
    simp only [Op.eqItems, Nat.mul_one, Sem.run_bind, part_scal ha e1 w, part_scal ha e2 w, Result.andThen_ok, run_equalIn_int w D E k k' _ _ he]
    by_cases h : ms[s] = ns[s]
    · have hb3 : ((ns[s] :: ms.drop (s + 1)) == (ns[s] :: ns.drop (s + 1))) = (ms.drop (s + 1) == ns.drop (s + 1)) := by
        rw [Bool.eq_iff_iff, beq_iff_eq, beq_iff_eq]
        exact ⟨fun q => (List.cons.inj q).2, fun q => by rw [q]⟩
      rw [h, hb3]
      simp only [beq_self_eq_true, Bool.not_true, Bool.false_eq_true, if_false]
      exact ih
    · have hb : (ms[s] == ns[s]) = false := by simpa using h
      rw [hb]
      have hb2 : ((ms[s] :: ms.drop (s + 1)) == (ns[s] :: ns.drop (s + 1))) = false := by
        rw [← Bool.not_eq_true, beq_iff_eq]
        intro q
        exact h (List.cons.inj q).1
      rw [hb2]
      simp
theorem q_arrI {E n z : Nat} {k k' : IntKind} {i : TypeInfo} {ms ns : List Int} {us vs : List Value} (hu : P.underlying t = some (.array n E)) (hi : P.info? E = some i) (hc : P.cellsOf E = 1) (he : P.underlying E = some (.int k')) (ha : ∀ w, (isAgg E).run P w = .ok false w)
    (h1 : us = ms.map (Value.int k)) (h2 : vs = ns.map (Value.int k)) (l1 : ms.length = n) (l2 : ns.length = n) : EqN P (z + 2) t (.agg us.toArray) (.agg vs.toArray) (ms == ns) := fun d w => by
  subst h1; subst h2
  rw [show d + (z + 2) = (d + z + 1) + 1 by omega, run_equalIn_array w (d + z + 1) _ _ hu hi, hc, List.range_eq_range', eqItems_ints ha he (d + z) w n 0 ms ns (by omega) (by omega)]
  simp
theorem d_copyStr {E sz dn dc m : Nat} {s : ByteArray} (hu : P.underlying t = some (.slice E)) (hs : ∀ w, (sizeOf E).run P w = .ok sz w) (hx : ev e x = some (.slice (some ⟨b, off, none⟩) dn dc)) (hy : ev e y = some (.string s))
    [h : Tk pt b A (cob l ty) R] (hm : Nat.min s.size dn = m) (ho : off + m ≤ l.length) (hr : setR l off ((s.data.toList.take m).map fun b => Value.int .u8 b.toNat) = l') :
    Does P W0 N e A (.call { callee := .builtin .copy, args := #[x, y], argTypes := #[t, t'] }) (fun v B => v = .int .i64 m ∧ B = pt b (cob l' ty) :: R) := by
  intro a w dst ty' pos af g K Q hF hO k
  have hO' := hO.tk (r := pt) (b := b)
  have hml : m ≤ s.data.toList.length := by
    have : m ≤ s.size := by rw [← hm]; exact Nat.min_le_left ..
    exact this
  have hcells : ((s.extract 0 m).data.map fun b => Value.int .u8 b.toNat).toList = (s.data.toList.take m).map fun b => Value.int .u8 b.toNat := by
    simp [ByteArray.data_extract, List.extract_eq_take_drop]
  obtain ⟨w', hst, hO''⟩ := storeCells_own (P := P) (off := off) ((s.data.toList.take m).map fun b => Value.int .u8 b.toNat) 0 hO' (by rw [List.length_map, List.length_take]; omega) (fun v hv => by
    obtain ⟨q, _, rfl⟩ := List.mem_map.1 hv; rfl)
  rw [Nat.add_zero, hr] at hO''
  have hexec : (execOp a.eval { dst := dst, op := .call { callee := .builtin .copy, args := #[x, y], argTypes := #[t, t'] }, type := ty', pos := pos, after := af, guard := g }).run P w = .ok (.value (.int .i64 m)) w' := by
    simp only [execOp, resolve, invoke, builtin, Sem.run_bind, Sem.run_pure, Result.andThen_ok, List.map_toArray, List.map_cons, List.map_nil, hF.eval hx, hF.eval hy, Builtin.copy_, Builtin.lenOf, Builtin.firstCells, run_und hu, hs]
    have hs' : (sizeOf E).run P w = .ok sz w := hs w
    simp only [hm, Array.getElem?_eq_getElem, List.getElem?_toArray, List.getElem?_cons_zero, List.getElem?_cons_succ, Sem.run_bind, Sem.run_pure, Result.andThen_ok, run_und hu, hs', hcells, hst, goInt]
  unfold Oper.wp
  rw [hexec]
  exact k _ w' _ ⟨rfl, rfl⟩ hO''
end
end Go.Proofs.YtncegikenkpcmaaGreat
namespace Go.Proofs.YtncegikenkpcmaaGreat
set_option linter.unusedSimpArgs false
set_option linter.unusedVariables false
def bV (b : Nat) : Value := .int .u8 (b : Int)
def byV (l : List Nat) : List Value := l.map bV
theorem byV_len (l : List Nat) : (byV l).length = l.length := by simp [byV]
theorem byV_get (l : List Nat) (i : Nat) (h : i < l.length) : (byV l)[i]? = some (bV l[i]) := by simp [byV, h]
theorem byV_append (a b : List Nat) : byV (a ++ b) = byV a ++ byV b := by simp [byV]
theorem byV_one (l : List Nat) : allOne (byV l) = true := by simp [allOne, byV, bV, Value.oneCell']
def By (l : List Nat) : Prop := ∀ b ∈ l, b < 256
theorem By.get {l : List Nat} (h : By l) {i : Nat} (hi : i < l.length) : l[i] < 256 := h _ (List.getElem_mem hi)
def leN : List Nat → Nat
  | [] => 0
  | b :: bs => b + 256 * leN bs
theorem leN_lt : ∀ {l : List Nat}, By l → leN l < 256 ^ l.length
  | [], _ => by simp [leN]
  | b :: bs, h => by
    have h1 := h b (by simp)
    have h2 := leN_lt (l := bs) fun x hx => h x (by simp [hx])
    simp only [leN, List.length_cons, Nat.pow_succ]; omega
theorem leN_snoc : ∀ (l : List Nat) (b : Nat), leN (l ++ [b]) = leN l + 256 ^ l.length * b
  | [], b => by simp [leN]
  | x :: l, b => by
    simp only [List.cons_append, leN, leN_snoc l b, List.length_cons, Nat.pow_succ]
    rw [Nat.mul_add, Nat.add_assoc, ← Nat.mul_assoc, Nat.mul_comm 256 (256 ^ l.length)]
theorem leN_take {l : List Nat} {i : Nat} (h : i < l.length) : leN (l.take (i + 1)) = leN (l.take i) + 256 ^ i * l[i] := by
  rw [List.take_succ_eq_append_getElem h, leN_snoc, List.length_take, Nat.min_eq_left (by omega)]
theorem By.take {l : List Nat} (h : By l) (i : Nat) : By (l.take i) := fun b hb => h b (List.mem_of_mem_take hb)
theorem By.drop {l : List Nat} (h : By l) (i : Nat) : By (l.drop i) := fun b hb => h b (List.mem_of_mem_drop hb)
theorem By.append {a b : List Nat} (h : By a) (k : By b) : By (a ++ b) := fun x hx => by
  rcases List.mem_append.1 hx with h' | h'
  · exact h x h'
  · exact k x h'
theorem pow256 (i : Nat) : 256 ^ i = 2 ^ (8 * i) := by rw [Nat.pow_mul]
theorem pow_le3 {i : Nat} (h : i ≤ 3) : 256 ^ i ≤ 16777216 := by
  match i, h with
  | 0, _ | 1, _ | 2, _ | 3, _ => decide
theorem shl_byte {b i : Nat} (hb : b < 256) (hi : i ≤ 3) : bShl .u32 (b : Int) ((8 * i : Nat) : Int) = ((256 ^ i * b : Nat) : Int) := by
  unfold bShl
  have h1 : min ((8 * i : Nat) : Int).toNat IntKind.u32.bits = 8 * i := by simp [IntKind.bits]; omega
  rw [h1]
  have h2 : (b : Int) * 2 ^ (8 * i) = ((256 ^ i * b : Nat) : Int) := by rw [pow256]; push_cast; exact Int.mul_comm _ _
  rw [h2]
  have := pow_le3 hi
  have h3 : 256 ^ i * b ≤ 16777216 * 255 := Nat.mul_le_mul this (by omega)
  exact w32u (by omega)
theorem or_byte {a b i : Nat} (ha : a < 256 ^ i) (hb : b < 256) (hi : i ≤ 3) : bOr .u32 (a : Int) ((256 ^ i * b : Nat) : Int) = ((a + 256 ^ i * b : Nat) : Int) := by
  have := pow_le3 hi
  have h3 : 256 ^ i * b ≤ 16777216 * 255 := Nat.mul_le_mul this (by omega)
  rw [bOr_u32 (by omega) (by omega)]
  congr 1
  rw [pow256] at ha ⊢
  have := Nat.two_pow_add_eq_or_of_lt (i := 8 * i) (b := a) ha b
  rw [Nat.or_comm, ← this, Nat.add_comm]
theorem add_byte {a b i : Nat} (ha : a < 256 ^ i) (hb : b < 256) (hi : i ≤ 3) : IntKind.wrap .u32 ((a : Int) + ((256 ^ i * b : Nat) : Int)) = ((a + 256 ^ i * b : Nat) : Int) := by
  have := pow_le3 hi
  have h3 : 256 ^ i * b ≤ 256 ^ i * 255 := Nat.mul_le_mul_left _ (by omega)
  have h4 : 256 ^ i * 256 ≤ 16777216 * 256 := Nat.mul_le_mul_right _ this
  rw [w32u (by omega)]; omega
def leB (n w : Nat) : List Nat := (List.range n).map fun i => w / 256 ^ i % 256
theorem leB_len (n w : Nat) : (leB n w).length = n := by simp [leB]
theorem leB_by (n w : Nat) : By (leB n w) := fun b hb => by
  obtain ⟨i, _, rfl⟩ := List.mem_map.1 hb
  exact Nat.mod_lt _ (by decide)
theorem leB_succ (n w : Nat) : leB (n + 1) w = leB n w ++ [w / 256 ^ n % 256] := by simp [leB, List.range_succ]
theorem byte_of {w i : Nat} (hi : 8 * i ≤ 32) : IntKind.wrap .u8 (bShr .u32 (w : Int) ((8 * i : Nat) : Int)) = ((w / 256 ^ i % 256 : Nat) : Int) := by
  rw [bShr_nat (by simpa [IntKind.bits] using hi), ← pow256]
  simp only [IntKind.wrap, IntKind.bits, IntKind.signed]
  simp
def putB (l : List Nat) (at_ n w : Nat) : List Nat := l.take at_ ++ leB n w ++ l.drop (at_ + n)
theorem putB_len {l : List Nat} {at_ n w : Nat} (h : at_ + n ≤ l.length) : (putB l at_ n w).length = l.length := by simp [putB, leB_len]; omega
theorem putB_by {l : List Nat} {at_ n w : Nat} (h : By l) : By (putB l at_ n w) := ((h.take _).append (leB_by _ _)).append (h.drop _)
theorem setR_snoc : ∀ (vs l : List Value) (off : Nat) (v : Value), setR l off (vs ++ [v]) = (setR l off vs).set (off + vs.length) v
  | [], l, off, v => by simp [setR]
  | u :: vs, l, off, v => by
    rw [List.cons_append, setR, setR, setR_snoc vs]
    congr 1; simp; omega
theorem setR_byV {l : List Nat} {at_ n w : Nat} (h : at_ + n ≤ l.length) : setR (byV l) at_ (byV (leB n w)) = byV (putB l at_ n w) := by
  rw [setR_eq _ _ _ (by rw [byV_len, byV_len, leB_len]; exact h), byV_len, leB_len]
  simp [putB, byV, List.map_take, List.map_drop]
theorem setR_front : ∀ (vs a b : List Value) (off : Nat), off + vs.length ≤ a.length → setR (a ++ b) off vs = setR a off vs ++ b
  | [], a, b, off, _ => rfl
  | v :: vs, a, b, off, h => by
    simp only [List.length_cons] at h
    rw [setR, setR, List.set_append_left _ _ (by omega), setR_front vs _ b (off + 1) (by simp; omega)]
def inB (n : Nat) (at_ w : Int) : Bool := decide ((w = 1 ∨ w = 2 ∨ w = 4) ∧ 0 ≤ at_ ∧ at_ ≤ n ∧ w ≤ n - at_)
theorem inB_iff {n : Nat} {at_ w : Int} : inB n at_ w = true ↔ (w = 1 ∨ w = 2 ∨ w = 4) ∧ 0 ≤ at_ ∧ at_ ≤ n ∧ w ≤ n - at_ := by simp [inB]
theorem inB_nat {n : Nat} {at_ w : Int} (h : inB n at_ w = true) : ∃ i k : Nat, at_ = (i : Int) ∧ w = (k : Int) ∧ (k = 1 ∨ k = 2 ∨ k = 4) ∧ i + k ≤ n := by
  have := inB_iff.1 h
  exact ⟨at_.toNat, w.toNat, by omega, by omega, by omega, by omega⟩
end Go.Proofs.YtncegikenkpcmaaGreat
namespace Go.Proofs.YtncegikenkpcmaaGreat
open Go.RowKit
set_option linter.unusedSimpArgs false
set_option linter.unusedVariables false
set_option maxRecDepth 20000
def winV (g off n : Nat) (at_ w : Int) : Value := if inB n at_ w then .tuple #[.slice (some ⟨g, off + at_.toNat, none⟩) w.toNat w.toNat, .bool true] else .tuple #[.slice none 0 0, .bool false]
theorem window_spec (W0 : World) (R : List HP) (g off n c : Nat) (at_ w : Int) (hn : n ≤ c) (h63 : c < 9223372036854775808) :
    Spec Tryz.prog W0 226 [.slice (some ⟨g, off, none⟩) n c, .int .i64 at_, .int .i64 w] R (fun v B => v = winV g off n at_ w ∧ B = R) := by
  refine spec_body Tryz.func226 Tryz.ntmps226 rfl rfl ?_
  refine x_seq (x_region (s_val rfl (v_assign rfl) (s_val rfl (v_assign rfl) (x_nil (n_then (x_seq (x_block (x_seq (x_region (s_val rfl (v_move rfl) (s_val rfl (v_neq rfl rfl) (s_val rfl (v_move rfl) ?_))))))))))))
  refine s_and rfl rfl rfl ?_ ?_
  · intro g1_3
    refine s_val rfl (v_move rfl) (s_yes rfl rfl (s_val rfl (v_neq rfl rfl) (s_val rfl (v_pick_t rfl rfl) (s_val rfl (v_move rfl) ?_))))
    refine s_and rfl rfl rfl ?_ ?_
    · intro g1_7
      refine s_val rfl (v_move rfl) (s_yes rfl rfl (s_val rfl (v_neq rfl rfl) (s_val rfl (v_pick_t rfl rfl) (s_val rfl (v_assign rfl) (x_nil (n_then ?_))))))
      refine x_if rfl ?_ ?_
      · intro c1
        refine x_seq (x_region (s_val rfl (v_assign rfl) (s_val rfl (v_assign rfl) (x_nil (n_then (x_ret (r_block (r_then (x_done (.inl rfl) (.cons (r_tmp rfl) (.cons (r_tmp rfl) .nil)) ?_)))))))))
        refine ⟨_, ⟨?_, rfl⟩, inferInstance⟩
        have hi : inB n at_ w = false := by
          rw [← Bool.not_eq_true, inB_iff]; omega
        simp [pack, winV, hi]
      · intro c1
        refine x_seq (x_seq (x_region (s_val rfl (v_move rfl) (s_val rfl (v_lss rfl rfl) (s_val rfl (v_assign rfl) (x_nil (n_then ?_)))))))
        refine x_if rfl ?_ ?_
        · intro c3
          refine x_skip (n_then (x_ift rfl (x_seq (x_region (s_val rfl (v_assign rfl) (s_val rfl (v_assign rfl) (x_nil (n_then (x_ret (r_block (r_then (x_done (.inl rfl) (.cons (r_tmp rfl) (.cons (r_tmp rfl) .nil)) ?_))))))))))))
          refine ⟨_, ⟨?_, rfl⟩, inferInstance⟩
          have hi : inB n at_ w = false := by
            rw [← Bool.not_eq_true, inB_iff]; omega
          simp [pack, winV, hi]
        · intro c3
          refine x_seq (x_region (s_val rfl (v_move rfl) (s_val rfl (v_move rfl) (s_val rfl (v_len_slice Tryz.underlying44 rfl) (s_val rfl (v_gtr rfl rfl) (s_val rfl (v_assign rfl) (x_nil (n_then ?_))))))))
          refine x_if rfl ?_ ?_
          · intro c4
            refine x_skip (n_then (x_ift rfl (x_seq (x_region (s_val rfl (v_assign rfl) (s_val rfl (v_assign rfl) (x_nil (n_then (x_ret (r_block (r_then (x_done (.inl rfl) (.cons (r_tmp rfl) (.cons (r_tmp rfl) .nil)) ?_))))))))))))
            refine ⟨_, ⟨?_, rfl⟩, inferInstance⟩
            have hi : inB n at_ w = false := by
              rw [← Bool.not_eq_true, inB_iff]; omega
            simp [pack, winV, hi]
          · intro c4
            refine x_region (s_val rfl (v_move rfl) (s_val rfl (v_move rfl) (s_val rfl (v_len_slice Tryz.underlying44 rfl) (s_val rfl (v_move rfl) ?_))))
            refine s_val rfl (v_sub rfl rfl (by first | exact w64 (by omega) | rfl)) ?_
            refine s_val rfl (v_gtr rfl rfl) (s_val rfl (v_assign rfl) (x_nil (n_then ?_)))
            refine x_if rfl ?_ ?_
            · intro c5
              refine x_seq (x_region (s_val rfl (v_assign rfl) (s_val rfl (v_assign rfl) (x_nil (n_then (x_ret (r_block (r_then (x_done (.inl rfl) (.cons (r_tmp rfl) (.cons (r_tmp rfl) .nil)) ?_)))))))))
              refine ⟨_, ⟨?_, rfl⟩, inferInstance⟩
              have hi : inB n at_ w = false := by
                rw [← Bool.not_eq_true, inB_iff]; omega
              simp [pack, winV, hi]
            · intro c5
              refine x_skip (n_block (n_then (x_seq ?_)))
              have hi : inB n at_ w = true := inB_iff.2 ⟨by omega, by omega, by omega, by omega⟩
              obtain ⟨i, k, rfl, rfl, hk, hik⟩ := inB_nat hi
              refine x_region (s_val rfl (v_move rfl) (s_val rfl (v_move rfl) (s_val rfl (v_move rfl) (s_val rfl (v_move rfl) ?_))))
              refine s_val rfl (v_add rfl rfl (by rw [w64 (by omega)]; exact (Int.natCast_add i k).symm : IntKind.wrap .i64 ((i : Int) + (k : Int)) = ((i + k : Nat) : Int))) ?_
              refine s_val rfl (v_move rfl) (s_val rfl (v_move rfl) ?_)
              refine s_val rfl (v_add rfl rfl (by rw [w64 (by omega)]; exact (Int.natCast_add i k).symm : IntKind.wrap .i64 ((i : Int) + (k : Int)) = ((i + k : Nat) : Int))) ?_
              refine s_val rfl (v_slice3 Tryz.underlying44 Tryz.sizeOf5 rfl rfl rfl rfl rfl rfl rfl (by omega) (by omega) (by omega) (by omega) (by first | exact Nat.zero_add _ | rfl)) ?_
              refine s_val rfl (v_assign rfl) (s_val rfl (v_assign rfl) (x_nil (n_then (x_ret (x_done (.inl rfl) (.cons (r_tmp rfl) (.cons (r_tmp rfl) .nil)) ?_)))))
              refine ⟨_, ⟨?_, rfl⟩, inferInstance⟩
              simp [pack, winV, hi]
    · intro g1_7
      refine s_no rfl rfl rfl rfl (s_val rfl (v_pick_f rfl rfl) (s_val rfl (v_assign rfl) (x_nil (n_then (x_iff rfl (x_seq (x_seq (x_region (s_val rfl (v_move rfl) (s_val rfl (v_lss rfl rfl) (s_val rfl (v_assign rfl) (x_nil (n_then ?_)))))))))))))
      refine x_if rfl ?_ ?_
      · intro c3
        refine x_skip (n_then (x_ift rfl (x_seq (x_region (s_val rfl (v_assign rfl) (s_val rfl (v_assign rfl) (x_nil (n_then (x_ret (r_block (r_then (x_done (.inl rfl) (.cons (r_tmp rfl) (.cons (r_tmp rfl) .nil)) ?_))))))))))))
        refine ⟨_, ⟨?_, rfl⟩, inferInstance⟩
        have hi : inB n at_ w = false := by
          rw [← Bool.not_eq_true, inB_iff]; omega
        simp [pack, winV, hi]
      · intro c3
        refine x_seq (x_region (s_val rfl (v_move rfl) (s_val rfl (v_move rfl) (s_val rfl (v_len_slice Tryz.underlying44 rfl) (s_val rfl (v_gtr rfl rfl) (s_val rfl (v_assign rfl) (x_nil (n_then ?_))))))))
        refine x_if rfl ?_ ?_
        · intro c4
          refine x_skip (n_then (x_ift rfl (x_seq (x_region (s_val rfl (v_assign rfl) (s_val rfl (v_assign rfl) (x_nil (n_then (x_ret (r_block (r_then (x_done (.inl rfl) (.cons (r_tmp rfl) (.cons (r_tmp rfl) .nil)) ?_))))))))))))
          refine ⟨_, ⟨?_, rfl⟩, inferInstance⟩
          have hi : inB n at_ w = false := by
            rw [← Bool.not_eq_true, inB_iff]; omega
          simp [pack, winV, hi]
        · intro c4
          refine x_region (s_val rfl (v_move rfl) (s_val rfl (v_move rfl) (s_val rfl (v_len_slice Tryz.underlying44 rfl) (s_val rfl (v_move rfl) ?_))))
          refine s_val rfl (v_sub rfl rfl (by first | exact w64 (by omega) | rfl)) ?_
          refine s_val rfl (v_gtr rfl rfl) (s_val rfl (v_assign rfl) (x_nil (n_then ?_)))
          refine x_if rfl ?_ ?_
          · intro c5
            refine x_seq (x_region (s_val rfl (v_assign rfl) (s_val rfl (v_assign rfl) (x_nil (n_then (x_ret (r_block (r_then (x_done (.inl rfl) (.cons (r_tmp rfl) (.cons (r_tmp rfl) .nil)) ?_)))))))))
            refine ⟨_, ⟨?_, rfl⟩, inferInstance⟩
            have hi : inB n at_ w = false := by
              rw [← Bool.not_eq_true, inB_iff]; omega
            simp [pack, winV, hi]
          · intro c5
            refine x_skip (n_block (n_then (x_seq ?_)))
            have hi : inB n at_ w = true := inB_iff.2 ⟨by omega, by omega, by omega, by omega⟩
            obtain ⟨i, k, rfl, rfl, hk, hik⟩ := inB_nat hi
            refine x_region (s_val rfl (v_move rfl) (s_val rfl (v_move rfl) (s_val rfl (v_move rfl) (s_val rfl (v_move rfl) ?_))))
            refine s_val rfl (v_add rfl rfl (by rw [w64 (by omega)]; exact (Int.natCast_add i k).symm : IntKind.wrap .i64 ((i : Int) + (k : Int)) = ((i + k : Nat) : Int))) ?_
            refine s_val rfl (v_move rfl) (s_val rfl (v_move rfl) ?_)
            refine s_val rfl (v_add rfl rfl (by rw [w64 (by omega)]; exact (Int.natCast_add i k).symm : IntKind.wrap .i64 ((i : Int) + (k : Int)) = ((i + k : Nat) : Int))) ?_
            refine s_val rfl (v_slice3 Tryz.underlying44 Tryz.sizeOf5 rfl rfl rfl rfl rfl rfl rfl (by omega) (by omega) (by omega) (by omega) (by first | exact Nat.zero_add _ | rfl)) ?_
            refine s_val rfl (v_assign rfl) (s_val rfl (v_assign rfl) (x_nil (n_then (x_ret (x_done (.inl rfl) (.cons (r_tmp rfl) (.cons (r_tmp rfl) .nil)) ?_)))))
            refine ⟨_, ⟨?_, rfl⟩, inferInstance⟩
            simp [pack, winV, hi]
  · intro g1_3
    refine s_no rfl rfl rfl rfl (s_val rfl (v_pick_f rfl rfl) (s_val rfl (v_move rfl) (s_no rfl rfl rfl rfl (s_no rfl rfl rfl rfl (s_val rfl (v_pick_f rfl rfl) (s_val rfl (v_assign rfl) (x_nil (n_then (x_iff rfl (x_seq (x_seq (x_region (s_val rfl (v_move rfl) (s_val rfl (v_lss rfl rfl) (s_val rfl (v_assign rfl) (x_nil (n_then ?_)))))))))))))))))
    refine x_if rfl ?_ ?_
    · intro c3
      refine x_skip (n_then (x_ift rfl (x_seq (x_region (s_val rfl (v_assign rfl) (s_val rfl (v_assign rfl) (x_nil (n_then (x_ret (r_block (r_then (x_done (.inl rfl) (.cons (r_tmp rfl) (.cons (r_tmp rfl) .nil)) ?_))))))))))))
      refine ⟨_, ⟨?_, rfl⟩, inferInstance⟩
      have hi : inB n at_ w = false := by
        rw [← Bool.not_eq_true, inB_iff]; omega
      simp [pack, winV, hi]
    · intro c3
      refine x_seq (x_region (s_val rfl (v_move rfl) (s_val rfl (v_move rfl) (s_val rfl (v_len_slice Tryz.underlying44 rfl) (s_val rfl (v_gtr rfl rfl) (s_val rfl (v_assign rfl) (x_nil (n_then ?_))))))))
      refine x_if rfl ?_ ?_
      · intro c4
        refine x_skip (n_then (x_ift rfl (x_seq (x_region (s_val rfl (v_assign rfl) (s_val rfl (v_assign rfl) (x_nil (n_then (x_ret (r_block (r_then (x_done (.inl rfl) (.cons (r_tmp rfl) (.cons (r_tmp rfl) .nil)) ?_))))))))))))
        refine ⟨_, ⟨?_, rfl⟩, inferInstance⟩
        have hi : inB n at_ w = false := by
          rw [← Bool.not_eq_true, inB_iff]; omega
        simp [pack, winV, hi]
      · intro c4
        refine x_region (s_val rfl (v_move rfl) (s_val rfl (v_move rfl) (s_val rfl (v_len_slice Tryz.underlying44 rfl) (s_val rfl (v_move rfl) ?_))))
        refine s_val rfl (v_sub rfl rfl (by first | exact w64 (by omega) | rfl)) ?_
        refine s_val rfl (v_gtr rfl rfl) (s_val rfl (v_assign rfl) (x_nil (n_then ?_)))
        refine x_if rfl ?_ ?_
        · intro c5
          refine x_seq (x_region (s_val rfl (v_assign rfl) (s_val rfl (v_assign rfl) (x_nil (n_then (x_ret (r_block (r_then (x_done (.inl rfl) (.cons (r_tmp rfl) (.cons (r_tmp rfl) .nil)) ?_)))))))))
          refine ⟨_, ⟨?_, rfl⟩, inferInstance⟩
          have hi : inB n at_ w = false := by
            rw [← Bool.not_eq_true, inB_iff]; omega
          simp [pack, winV, hi]
        · intro c5
          refine x_skip (n_block (n_then (x_seq ?_)))
          have hi : inB n at_ w = true := inB_iff.2 ⟨by omega, by omega, by omega, by omega⟩
          obtain ⟨i, k, rfl, rfl, hk, hik⟩ := inB_nat hi
          refine x_region (s_val rfl (v_move rfl) (s_val rfl (v_move rfl) (s_val rfl (v_move rfl) (s_val rfl (v_move rfl) ?_))))
          refine s_val rfl (v_add rfl rfl (by rw [w64 (by omega)]; exact (Int.natCast_add i k).symm : IntKind.wrap .i64 ((i : Int) + (k : Int)) = ((i + k : Nat) : Int))) ?_
          refine s_val rfl (v_move rfl) (s_val rfl (v_move rfl) ?_)
          refine s_val rfl (v_add rfl rfl (by rw [w64 (by omega)]; exact (Int.natCast_add i k).symm : IntKind.wrap .i64 ((i : Int) + (k : Int)) = ((i + k : Nat) : Int))) ?_
          refine s_val rfl (v_slice3 Tryz.underlying44 Tryz.sizeOf5 rfl rfl rfl rfl rfl rfl rfl (by omega) (by omega) (by omega) (by omega) (by first | exact Nat.zero_add _ | rfl)) ?_
          refine s_val rfl (v_assign rfl) (s_val rfl (v_assign rfl) (x_nil (n_then (x_ret (x_done (.inl rfl) (.cons (r_tmp rfl) (.cons (r_tmp rfl) .nil)) ?_)))))
          refine ⟨_, ⟨?_, rfl⟩, inferInstance⟩
          simp [pack, winV, hi]
theorem windowN_spec (W0 : World) (R : List HP) (a : Option Addr) (n c : Nat) (at_ w : Int) (hi : inB n at_ w = false) (hn : n < 9223372036854775808) :
    Spec Tryz.prog W0 226 [.slice a n c, .int .i64 at_, .int .i64 w] R (fun v B => v = .tuple #[.slice none 0 0, .bool false] ∧ B = R) := by
  have hq : ¬ ((w = 1 ∨ w = 2 ∨ w = 4) ∧ 0 ≤ at_ ∧ at_ ≤ n ∧ w ≤ n - at_) := fun h => by rw [inB_iff.2 h] at hi; cases hi
  refine spec_body Tryz.func226 Tryz.ntmps226 rfl rfl ?_
  refine x_seq (x_region (s_val rfl (v_assign rfl) (s_val rfl (v_assign rfl) (x_nil (n_then (x_seq (x_block (x_seq (x_region (s_val rfl (v_move rfl) (s_val rfl (v_neq rfl rfl) (s_val rfl (v_move rfl) ?_))))))))))))
  refine s_and rfl rfl rfl ?_ ?_
  · intro g1_3
    refine s_val rfl (v_move rfl) (s_yes rfl rfl (s_val rfl (v_neq rfl rfl) (s_val rfl (v_pick_t rfl rfl) (s_val rfl (v_move rfl) ?_))))
    refine s_and rfl rfl rfl ?_ ?_
    · intro g1_7
      refine s_val rfl (v_move rfl) (s_yes rfl rfl (s_val rfl (v_neq rfl rfl) (s_val rfl (v_pick_t rfl rfl) (s_val rfl (v_assign rfl) (x_nil (n_then ?_))))))
      refine x_if rfl ?_ ?_
      · intro c1
        refine x_seq (x_region (s_val rfl (v_assign rfl) (s_val rfl (v_assign rfl) (x_nil (n_then (x_ret (r_block (r_then (x_done (.inl rfl) (.cons (r_tmp rfl) (.cons (r_tmp rfl) .nil)) ?_)))))))))
        exact ⟨_, ⟨rfl, rfl⟩, inferInstance⟩
      · intro c1
        refine x_seq (x_seq (x_region (s_val rfl (v_move rfl) (s_val rfl (v_lss rfl rfl) (s_val rfl (v_assign rfl) (x_nil (n_then ?_)))))))
        refine x_if rfl ?_ ?_
        · intro c3
          refine x_skip (n_then (x_ift rfl (x_seq (x_region (s_val rfl (v_assign rfl) (s_val rfl (v_assign rfl) (x_nil (n_then (x_ret (r_block (r_then (x_done (.inl rfl) (.cons (r_tmp rfl) (.cons (r_tmp rfl) .nil)) ?_))))))))))))
          exact ⟨_, ⟨rfl, rfl⟩, inferInstance⟩
        · intro c3
          refine x_seq (x_region (s_val rfl (v_move rfl) (s_val rfl (v_move rfl) (s_val rfl (v_len_slice Tryz.underlying44 rfl) (s_val rfl (v_gtr rfl rfl) (s_val rfl (v_assign rfl) (x_nil (n_then ?_))))))))
          refine x_if rfl ?_ ?_
          · intro c4
            refine x_skip (n_then (x_ift rfl (x_seq (x_region (s_val rfl (v_assign rfl) (s_val rfl (v_assign rfl) (x_nil (n_then (x_ret (r_block (r_then (x_done (.inl rfl) (.cons (r_tmp rfl) (.cons (r_tmp rfl) .nil)) ?_))))))))))))
            exact ⟨_, ⟨rfl, rfl⟩, inferInstance⟩
          · intro c4
            refine x_region (s_val rfl (v_move rfl) (s_val rfl (v_move rfl) (s_val rfl (v_len_slice Tryz.underlying44 rfl) (s_val rfl (v_move rfl) ?_))))
            refine s_val rfl (v_sub rfl rfl (by first | exact w64 (by omega) | rfl)) ?_
            refine s_val rfl (v_gtr rfl rfl) (s_val rfl (v_assign rfl) (x_nil (n_then ?_)))
            refine x_if rfl ?_ ?_
            · intro c5
              refine x_seq (x_region (s_val rfl (v_assign rfl) (s_val rfl (v_assign rfl) (x_nil (n_then (x_ret (r_block (r_then (x_done (.inl rfl) (.cons (r_tmp rfl) (.cons (r_tmp rfl) .nil)) ?_)))))))))
              exact ⟨_, ⟨rfl, rfl⟩, inferInstance⟩
            · intro c5
              exfalso; omega
    · intro g1_7
      refine s_no rfl rfl rfl rfl (s_val rfl (v_pick_f rfl rfl) (s_val rfl (v_assign rfl) (x_nil (n_then (x_iff rfl (x_seq (x_seq (x_region (s_val rfl (v_move rfl) (s_val rfl (v_lss rfl rfl) (s_val rfl (v_assign rfl) (x_nil (n_then ?_)))))))))))))
      refine x_if rfl ?_ ?_
      · intro c3
        refine x_skip (n_then (x_ift rfl (x_seq (x_region (s_val rfl (v_assign rfl) (s_val rfl (v_assign rfl) (x_nil (n_then (x_ret (r_block (r_then (x_done (.inl rfl) (.cons (r_tmp rfl) (.cons (r_tmp rfl) .nil)) ?_))))))))))))
        exact ⟨_, ⟨rfl, rfl⟩, inferInstance⟩
      · intro c3
        refine x_seq (x_region (s_val rfl (v_move rfl) (s_val rfl (v_move rfl) (s_val rfl (v_len_slice Tryz.underlying44 rfl) (s_val rfl (v_gtr rfl rfl) (s_val rfl (v_assign rfl) (x_nil (n_then ?_))))))))
        refine x_if rfl ?_ ?_
        · intro c4
          refine x_skip (n_then (x_ift rfl (x_seq (x_region (s_val rfl (v_assign rfl) (s_val rfl (v_assign rfl) (x_nil (n_then (x_ret (r_block (r_then (x_done (.inl rfl) (.cons (r_tmp rfl) (.cons (r_tmp rfl) .nil)) ?_))))))))))))
          exact ⟨_, ⟨rfl, rfl⟩, inferInstance⟩
        · intro c4
          refine x_region (s_val rfl (v_move rfl) (s_val rfl (v_move rfl) (s_val rfl (v_len_slice Tryz.underlying44 rfl) (s_val rfl (v_move rfl) ?_))))
          refine s_val rfl (v_sub rfl rfl (by first | exact w64 (by omega) | rfl)) ?_
          refine s_val rfl (v_gtr rfl rfl) (s_val rfl (v_assign rfl) (x_nil (n_then ?_)))
          refine x_if rfl ?_ ?_
          · intro c5
            refine x_seq (x_region (s_val rfl (v_assign rfl) (s_val rfl (v_assign rfl) (x_nil (n_then (x_ret (r_block (r_then (x_done (.inl rfl) (.cons (r_tmp rfl) (.cons (r_tmp rfl) .nil)) ?_)))))))))
            exact ⟨_, ⟨rfl, rfl⟩, inferInstance⟩
          · intro c5
            exfalso; omega
  · intro g1_3
    refine s_no rfl rfl rfl rfl (s_val rfl (v_pick_f rfl rfl) (s_val rfl (v_move rfl) (s_no rfl rfl rfl rfl (s_no rfl rfl rfl rfl (s_val rfl (v_pick_f rfl rfl) (s_val rfl (v_assign rfl) (x_nil (n_then (x_iff rfl (x_seq (x_seq (x_region (s_val rfl (v_move rfl) (s_val rfl (v_lss rfl rfl) (s_val rfl (v_assign rfl) (x_nil (n_then ?_)))))))))))))))))
    refine x_if rfl ?_ ?_
    · intro c3
      refine x_skip (n_then (x_ift rfl (x_seq (x_region (s_val rfl (v_assign rfl) (s_val rfl (v_assign rfl) (x_nil (n_then (x_ret (r_block (r_then (x_done (.inl rfl) (.cons (r_tmp rfl) (.cons (r_tmp rfl) .nil)) ?_))))))))))))
      exact ⟨_, ⟨rfl, rfl⟩, inferInstance⟩
    · intro c3
      refine x_seq (x_region (s_val rfl (v_move rfl) (s_val rfl (v_move rfl) (s_val rfl (v_len_slice Tryz.underlying44 rfl) (s_val rfl (v_gtr rfl rfl) (s_val rfl (v_assign rfl) (x_nil (n_then ?_))))))))
      refine x_if rfl ?_ ?_
      · intro c4
        refine x_skip (n_then (x_ift rfl (x_seq (x_region (s_val rfl (v_assign rfl) (s_val rfl (v_assign rfl) (x_nil (n_then (x_ret (r_block (r_then (x_done (.inl rfl) (.cons (r_tmp rfl) (.cons (r_tmp rfl) .nil)) ?_))))))))))))
        exact ⟨_, ⟨rfl, rfl⟩, inferInstance⟩
      · intro c4
        refine x_region (s_val rfl (v_move rfl) (s_val rfl (v_move rfl) (s_val rfl (v_len_slice Tryz.underlying44 rfl) (s_val rfl (v_move rfl) ?_))))
        refine s_val rfl (v_sub rfl rfl (by first | exact w64 (by omega) | rfl)) ?_
        refine s_val rfl (v_gtr rfl rfl) (s_val rfl (v_assign rfl) (x_nil (n_then ?_)))
        refine x_if rfl ?_ ?_
        · intro c5
          refine x_seq (x_region (s_val rfl (v_assign rfl) (s_val rfl (v_assign rfl) (x_nil (n_then (x_ret (r_block (r_then (x_done (.inl rfl) (.cons (r_tmp rfl) (.cons (r_tmp rfl) .nil)) ?_)))))))))
          exact ⟨_, ⟨rfl, rfl⟩, inferInstance⟩
        · intro c5
          exfalso; omega
theorem gather_spec (W0 : World) (R : List HP) (g off c : Nat) (l : List Nat) (hc : Cells (OwnP W0 R) g off (byV l)) (hl : l.length ≤ 4) (hb : By l) :
    Spec Tryz.prog W0 240 [.slice (some ⟨g, off, none⟩) l.length c] R (fun v B => v = .int .u32 (leN l : Nat) ∧ B = R) := by
  refine spec_body Tryz.func240 Tryz.ntmps240 rfl rfl ?_
  refine x_seq (x_region (s_val rfl (v_assign rfl) (x_nil (n_then (x_seq (x_region (s_val rfl (v_assign rfl) (x_nil (n_then (x_seq (x_seq (x_region (s_val rfl (v_move rfl) (s_val rfl (v_len_slice Tryz.underlying44 rfl) (s_val rfl (v_move rfl) (x_nil (n_then (x_block ?_))))))))))))))))))
  refine x_loop (fun i : Nat => i ≤ l.length) (fun i => [(0, .slice (some ⟨g, off, none⟩) l.length c), (3, .int .u32 (leN (l.take i) : Nat)), (6, .int .i64 (l.length : Nat)), (7, .int .i64 i)]) (fun _ => R) (fun i => l.length - i) 0 ?_ ?_ ?_ ?_
  · exact Nat.zero_le _
  · repeat (first | exact sub_nil | refine sub_cons rfl ?_)
  · exact inferInstance
  · intro i hi
    refine x_seq (x_region (s_val rfl (v_lss rfl rfl) (x_nil (n_then (x_seq ?_)))))
    refine x_if rfl ?_ ?_
    · intro c3
      refine x_skip (n_then (x_seq (x_block (x_seq (x_region (s_val rfl (v_move rfl) (s_val rfl (v_assign rfl) (x_nil (n_then ?_)))))))))
      have hil : i < l.length := by omega
      have hbi := hb.get hil
      have hlt := leN_lt (hb.take i)
      rw [List.length_take, Nat.min_eq_left (by omega)] at hlt
      refine x_region (s_val rfl (v_move rfl) (s_val rfl (v_move rfl) (s_val rfl (v_move rfl) ?_)))
      refine s_val rfl (v_idx Tryz.underlying44 Tryz.sizeOf5 rfl rfl rfl hil (by first | exact Nat.zero_add _ | rfl)) ?_
      refine s_val rfl (v_load Tryz.isAgg5 rfl (by have := hc i (bV l[i]) (byV_get l i hil); rwa [Nat.mul_one])) ?_
      refine s_val rfl (v_conv Tryz.underlying5 Tryz.underlying47 rfl (w32u (by omega))) ?_
      refine s_val rfl (v_move rfl) ?_
      refine s_val rfl (v_mul rfl rfl (by rw [w64 (by omega)]; omega : IntKind.wrap .i64 (8 * (i : Int)) = ((8 * i : Nat) : Int))) ?_
      refine s_val rfl (v_shl rfl rfl (by omega) (shl_byte hbi (by omega))) ?_
      refine s_val rfl (v_or rfl rfl ((or_byte hlt hbi (by omega)).trans (congrArg _ (leN_take hil).symm))) ?_
      refine s_val rfl (v_assign rfl) (x_nil (n_block (n_then (x_region ?_))))
      refine s_val rfl (v_add rfl rfl (by first | exact w64 (by omega) | rfl)) ?_
      refine s_val rfl (v_move rfl) (x_nil (n_then ?_))
      refine inv_intro (i + 1) ?_ ?_ ?_ ?_
      · omega
      · omega
      · repeat (first | exact sub_nil | refine sub_cons rfl ?_)
      · exact inferInstance
    · intro c3
      refine x_exit (e_then (e_then (e_block (n_then (x_seq (x_region (s_val rfl (v_move rfl) (s_val rfl (v_assign rfl) (x_nil (n_then (x_ret (x_done (.inl rfl) (.cons (r_tmp rfl) .nil) ?_))))))))))))
      refine ⟨_, ⟨?_, rfl⟩, inferInstance⟩
      have : i = l.length := by omega
      subst this; simp [pack]
theorem Cells.part {S : World → Prop} {b off : Nat} {l : List Nat} (h : Cells S b off (byV l)) (i k : Nat) (hik : i + k ≤ l.length) : Cells S b (off + i) (byV ((l.drop i).take k)) := fun j v hv => by
  have hj : j < k := by
    rcases Nat.lt_or_ge j k with q | q
    · exact q
    · rw [List.getElem?_eq_none (by rw [byV_len, List.length_take]; omega)] at hv; cases hv
  have := h (i + j) v (by
    rw [byV, List.getElem?_map, List.getElem?_take_of_lt hj, List.getElem?_drop] at hv
    rw [byV, List.getElem?_map]; exact hv)
  rwa [← Nat.add_assoc] at this
def getN (l : List Nat) (at_ w : Int) : Nat := if inB l.length at_ w then leN ((l.drop at_.toNat).take w.toNat) else 0
def getE (l : List Nat) (at_ w : Int) : Int := if inB l.length at_ w then 0 else 1
theorem octGet_spec (W0 : World) (R : List HP) (g off c : Nat) (l : List Nat) (at_ w : Int) (hc : Cells (OwnP W0 R) g off (byV l)) (hb : By l) (hn : l.length ≤ c) (h63 : c < 9223372036854775808) :
    Spec Tryz.prog W0 205 [.slice (some ⟨g, off, none⟩) l.length c, .int .i64 at_, .int .i64 w] R (fun v B => v = .tuple #[.int .u32 (getN l at_ w : Nat), .int .i64 (getE l at_ w)] ∧ B = R) := by
  by_cases hi : inB l.length at_ w = true
  · obtain ⟨i, k, rfl, rfl, hk, hik⟩ := inB_nat hi
    have hw : winV g off l.length i k = .tuple #[.slice (some ⟨g, off + i, none⟩) ((l.drop i).take k).length k, .bool true] := by
      have : min k (l.length - i) = k := by omega
      simp [winV, hi, this]
    refine spec_body Tryz.func205 Tryz.ntmps205 rfl rfl ?_
    refine x_seq (x_region (s_val rfl (v_assign rfl) (s_val rfl (v_assign rfl) (x_nil (n_then (x_seq (x_region (s_val rfl (v_move rfl) (s_val rfl (v_move rfl) (s_val rfl (v_move rfl) (s_do rfl (d_call Tryz.call226 rfl (window_spec W0 _ g off l.length c i k hn h63)) ?_)))))))))))
    rintro _ B_ ⟨rfl, hB_⟩
    obtain rfl := hB_.symm
    rw [hw]
    refine s_val rfl (v_move rfl) (s_val rfl (v_extract rfl rfl) (s_val rfl (v_extract rfl rfl) (s_val rfl (v_assign rfl) (s_val rfl (v_assign rfl) (x_nil (n_then (x_seq (x_seq (x_region (s_val rfl (v_move rfl) (s_val rfl (v_not rfl) (x_nil (n_then ?_)))))))))))))
    refine x_if rfl ?_ ?_
    · intro c2
      exact absurd c2 (by simp)
    · intro c2
      refine x_skip (n_then (x_seq (x_region (s_val rfl (v_move rfl) ?_))))
      refine s_do rfl (d_call Tryz.call240 rfl (gather_spec W0 _ g (off + i) k ((l.drop i).take k) (hc.part i k hik) (by rw [List.length_take]; omega) ((hb.drop i).take k))) ?_
      rintro _ B_ ⟨rfl, hB_⟩
      obtain rfl := hB_.symm
      refine s_val rfl (v_assign rfl) (s_val rfl (v_assign rfl) (x_nil (n_then (x_ret (x_done (.inl rfl) (.cons (r_tmp rfl) (.cons (r_tmp rfl) .nil)) ?_)))))
      refine ⟨_, ⟨?_, rfl⟩, inferInstance⟩
      simp [pack, getN, getE, hi]
  · have hi' : inB l.length at_ w = false := by simpa using hi
    have hw : winV g off l.length at_ w = .tuple #[.slice none 0 0, .bool false] := by simp [winV, hi']
    refine spec_body Tryz.func205 Tryz.ntmps205 rfl rfl ?_
    refine x_seq (x_region (s_val rfl (v_assign rfl) (s_val rfl (v_assign rfl) (x_nil (n_then (x_seq (x_region (s_val rfl (v_move rfl) (s_val rfl (v_move rfl) (s_val rfl (v_move rfl) (s_do rfl (d_call Tryz.call226 rfl (window_spec W0 _ g off l.length c at_ w hn h63)) ?_)))))))))))
    rintro _ B_ ⟨rfl, hB_⟩
    obtain rfl := hB_.symm
    rw [hw]
    refine s_val rfl (v_move rfl) (s_val rfl (v_extract rfl rfl) (s_val rfl (v_extract rfl rfl) (s_val rfl (v_assign rfl) (s_val rfl (v_assign rfl) (x_nil (n_then (x_seq (x_seq (x_region (s_val rfl (v_move rfl) (s_val rfl (v_not rfl) (x_nil (n_then ?_)))))))))))))
    refine x_if rfl ?_ ?_
    · intro c2
      refine x_seq (x_region (s_val rfl (v_assign rfl) (s_val rfl (v_assign rfl) (x_nil (n_then (x_ret (r_then (x_done (.inl rfl) (.cons (r_tmp rfl) (.cons (r_tmp rfl) .nil)) ?_))))))))
      refine ⟨_, ⟨?_, rfl⟩, inferInstance⟩
      simp [pack, getN, getE, hi']
    · intro c2
      exact absurd c2 (by simp)
theorem spread_spec (W0 : World) (R : List HP) (g off n c ty : Nat) (L : List Value) (w : Nat) (hw : w < 4294967296) (hn : n ≤ 4) (hL : off + n ≤ L.length) :
    Spec Tryz.prog W0 197 [.slice (some ⟨g, off, none⟩) n c, .int .u32 w] (pt g (cob L ty) :: R) (fun v B => v = .tuple #[] ∧ B = pt g (cob (setR L off (byV (leB n w))) ty) :: R) := by
  refine spec_body Tryz.func197 Tryz.ntmps197 rfl rfl ?_
  refine x_seq (x_region (s_val rfl (v_move rfl) (s_val rfl (v_len_slice Tryz.underlying44 rfl) (s_val rfl (v_move rfl) (x_nil (n_then (x_block ?_)))))))
  refine x_loop (fun i : Nat => i ≤ n) (fun i => [(0, .slice (some ⟨g, off, none⟩) n c), (1, .int .u32 w), (6, .int .i64 n), (7, .int .i64 i)]) (fun i => pt g (cob (setR L off (byV (leB i w))) ty) :: R) (fun i => n - i) 0 ?_ ?_ ?_ ?_
  · exact Nat.zero_le _
  · repeat (first | exact sub_nil | refine sub_cons rfl ?_)
  · rw [show setR L off (byV (leB 0 w)) = L from rfl]; exact inferInstance
  · intro i hi
    refine x_seq (x_region (s_val rfl (v_lss rfl rfl) (x_nil (n_then (x_seq ?_)))))
    refine x_if rfl ?_ ?_
    · intro c1
      refine x_skip (n_then (x_seq (x_block (x_seq (x_region (s_val rfl (v_move rfl) (s_val rfl (v_assign rfl) (x_nil (n_then (x_region (s_val rfl (v_move rfl) (s_val rfl (v_move rfl) (s_val rfl (v_move rfl) (s_val rfl (v_move rfl) ?_))))))))))))))
      refine s_val rfl (v_mul rfl rfl (by rw [w64 (by omega)]; omega : IntKind.wrap .i64 (8 * (i : Int)) = ((8 * i : Nat) : Int))) ?_
      refine s_val rfl (v_shr rfl rfl (by omega) rfl) ?_
      refine s_val rfl (v_conv Tryz.underlying47 Tryz.underlying5 rfl (byte_of (by omega))) ?_
      refine s_val rfl (v_idx Tryz.underlying44 Tryz.sizeOf5 rfl rfl rfl (by omega) (by first | exact Nat.zero_add _ | rfl)) ?_
      refine s_do0 (d_store Tryz.sizeOf5 rfl rfl rfl (by rw [setR_length]; omega) (by rw [leB_succ, byV_append, show byV [w / 256 ^ i % 256] = [bV (w / 256 ^ i % 256)] from rfl, setR_snoc, byV_len, leB_len, Nat.mul_one]; rfl : (setR L off (byV (leB i w))).set (off + i * 1) _ = setR L off (byV (leB (i + 1) w)))) ?_
      rintro _ _ rfl
      refine x_nil (n_block (n_then (x_region ?_)))
      refine s_val rfl (v_add rfl rfl (by first | exact w64 (by omega) | rfl)) ?_
      refine s_val rfl (v_move rfl) (x_nil (n_then ?_))
      refine inv_intro (i + 1) ?_ ?_ ?_ ?_
      · omega
      · omega
      · repeat (first | exact sub_nil | refine sub_cons rfl ?_)
      · exact inferInstance
    · intro c1
      refine x_exit (e_then (e_then (e_block (x_done (.inr rfl) .nil ?_))))
      have : i = n := by omega
      subst this
      exact ⟨_, ⟨rfl, rfl⟩, inferInstance⟩
theorem clone_spec (W0 : World) (R : List HP) (g off c : Nat) (l : List Nat) (hc : Cells (OwnP W0 R) g off (byV l)) (hn : l.length ≤ 1000000) :
    Spec Tryz.prog W0 225 [.slice (some ⟨g, off, none⟩) l.length c] R (fun v B => ∃ a' c', v = .slice a' l.length c' ∧ B = osl 5 1 (.slice a' l.length c') (byV l) :: R) := by
  refine spec_body Tryz.func225 Tryz.ntmps225 rfl rfl ?_
  refine x_seq (x_region (s_val rfl (v_assign rfl) (x_nil (n_then (x_seq (x_seq (x_region (s_val rfl (v_move rfl) (s_val rfl (v_eql_slice_nil Tryz.underlying44 rfl rfl) (x_nil (n_then ?_)))))))))))
  refine x_if rfl ?_ ?_
  · intro c1
    cases c1
  · intro c1
    refine x_skip (n_then (x_seq (x_region (s_do rfl (d_slice0 Tryz.underlying44 Tryz.sizeOf5 rfl) ?_))))
    rintro _ _ ⟨b1, rfl, rfl⟩
    refine s_val rfl (v_move rfl) ?_
    refine s_do rfl (d_append (sz := 1) (by_ := 1) (info := Tryz.t5) Tryz.underlying44 (by kernel_rfl) rfl rfl rfl rfl (by decide) rfl rfl hc.weak ((byV_len l).trans (Nat.mul_one _).symm) (byV_one l) (by simp only [maxLen]; omega) (by omega)) ?_
    rintro _ _ ⟨a1, c1, rfl, rfl⟩
    refine s_val rfl (v_assign rfl) (x_nil (n_then (x_ret (x_done (.inl rfl) (.cons (r_tmp rfl) .nil) ?_))))
    exact ⟨_, ⟨a1, c1, by simp [pack], rfl⟩, by simpa using (ent_refl : Ent _ _)⟩
theorem refIn_spec (W0 : World) (R : List HP) (a : Option Addr) (n c : Nat) (at_ w : Int) (hn : n < 9223372036854775808) :
    Spec Tryz.prog W0 222 [.slice a n c, .int .i64 at_, .int .i64 w] R (fun v B => v = .bool (inB n at_ w) ∧ B = R) := by
  refine spec_body Tryz.func222 Tryz.ntmps222 rfl rfl ?_
  refine x_seq (x_region (s_val rfl (v_assign rfl) (x_nil (n_then (x_seq (x_seq (x_region (s_val rfl (v_move rfl) (s_val rfl (v_neq rfl rfl) (s_val rfl (v_move rfl) ?_))))))))))
  refine s_and rfl rfl rfl ?_ ?_
  · intro g1_3
    refine s_val rfl (v_move rfl) (s_yes rfl rfl (s_val rfl (v_neq rfl rfl) (s_val rfl (v_pick_t rfl rfl) (s_val rfl (v_move rfl) ?_))))
    refine s_and rfl rfl rfl ?_ ?_
    · intro g1_7
      refine s_val rfl (v_move rfl) (s_yes rfl rfl (s_val rfl (v_neq rfl rfl) (s_val rfl (v_pick_t rfl rfl) (x_nil (n_then ?_)))))
      refine x_if rfl ?_ ?_
      · intro c1
        refine x_seq (x_region (s_val rfl (v_assign rfl) (x_nil (n_then (x_ret (r_then (x_done (.inl rfl) (.cons (r_tmp rfl) .nil) ?_)))))))
        refine ⟨_, ⟨?_, rfl⟩, inferInstance⟩
        have hi : inB n at_ w = false := by
          rw [← Bool.not_eq_true, inB_iff]; omega
        simp [pack, hi]
      · intro c1
        refine x_skip (n_then (x_seq (x_region (s_val rfl (v_move rfl) (s_val rfl (v_geq rfl rfl) (s_val rfl (v_move rfl) ?_))))))
        refine s_and rfl rfl rfl ?_ ?_
        · intro g3_3
          refine s_val rfl (v_move rfl) (s_yes rfl rfl (s_val rfl (v_move rfl) (s_yes rfl rfl (s_val rfl (v_len_slice Tryz.underlying44 rfl) (s_yes rfl rfl (s_val rfl (v_leq rfl rfl) (s_val rfl (v_pick_t rfl rfl) (s_val rfl (v_move rfl) ?_))))))))
          refine s_and rfl rfl rfl ?_ ?_
          · intro g3_9
            refine s_val rfl (v_move rfl) (s_yes rfl rfl (s_val rfl (v_len_slice Tryz.underlying44 rfl) (s_yes rfl rfl (s_val rfl (v_move rfl) (s_yes rfl rfl ?_)))))
            refine s_val rfl (v_sub rfl rfl (w64 (by omega))) ?_
            refine s_yes rfl rfl (s_val rfl (v_move rfl) (s_yes rfl rfl (s_val rfl (v_geq rfl rfl) (s_val rfl (v_pick_t rfl rfl) (s_val rfl (v_assign rfl) (x_nil (n_then (x_ret (x_done (.inl rfl) (.cons (r_tmp rfl) .nil) ?_)))))))))
            refine ⟨_, ⟨?_, rfl⟩, inferInstance⟩
            refine congrArg Value.bool ?_
            rw [Bool.eq_iff_iff, inB_iff]; simp only [Bool.false_eq_true, false_iff, decide_eq_true_eq]; omega
          · intro g3_9
            refine s_no rfl rfl rfl rfl (s_no rfl rfl rfl rfl (s_no rfl rfl rfl rfl (s_no rfl rfl rfl rfl (s_no rfl rfl rfl rfl (s_val rfl (v_pick_f rfl rfl) (s_val rfl (v_assign rfl) (x_nil (n_then (x_ret (x_done (.inl rfl) (.cons (r_tmp rfl) .nil) ?_))))))))))
            refine ⟨_, ⟨?_, rfl⟩, inferInstance⟩
            refine congrArg Value.bool ?_
            rw [Bool.eq_iff_iff, inB_iff]; simp only [Bool.false_eq_true, false_iff, decide_eq_true_eq]; omega
        · intro g3_3
          refine s_no rfl rfl rfl rfl (s_no rfl rfl rfl rfl (s_no rfl rfl rfl rfl (s_val rfl (v_pick_f rfl rfl) (s_val rfl (v_move rfl) (s_no rfl rfl rfl rfl (s_no rfl rfl rfl rfl (s_no rfl rfl rfl rfl (s_no rfl rfl rfl rfl (s_no rfl rfl rfl rfl (s_no rfl rfl rfl rfl (s_val rfl (v_pick_f rfl rfl) (s_val rfl (v_assign rfl) (x_nil (n_then (x_ret (x_done (.inl rfl) (.cons (r_tmp rfl) .nil) ?_))))))))))))))))
          refine ⟨_, ⟨?_, rfl⟩, inferInstance⟩
          refine congrArg Value.bool ?_
          rw [Bool.eq_iff_iff, inB_iff]; simp only [Bool.false_eq_true, false_iff, decide_eq_true_eq]; omega
    · intro g1_7
      refine s_no rfl rfl rfl rfl (s_val rfl (v_pick_f rfl rfl) (x_nil (n_then (x_iff rfl (x_skip (n_then (x_seq (x_region (s_val rfl (v_move rfl) (s_val rfl (v_geq rfl rfl) (s_val rfl (v_move rfl) ?_)))))))))))
      refine s_and rfl rfl rfl ?_ ?_
      · intro g3_3
        refine s_val rfl (v_move rfl) (s_yes rfl rfl (s_val rfl (v_move rfl) (s_yes rfl rfl (s_val rfl (v_len_slice Tryz.underlying44 rfl) (s_yes rfl rfl (s_val rfl (v_leq rfl rfl) (s_val rfl (v_pick_t rfl rfl) (s_val rfl (v_move rfl) ?_))))))))
        refine s_and rfl rfl rfl ?_ ?_
        · intro g3_9
          refine s_val rfl (v_move rfl) (s_yes rfl rfl (s_val rfl (v_len_slice Tryz.underlying44 rfl) (s_yes rfl rfl (s_val rfl (v_move rfl) (s_yes rfl rfl ?_)))))
          refine s_val rfl (v_sub rfl rfl (w64 (by omega))) ?_
          refine s_yes rfl rfl (s_val rfl (v_move rfl) (s_yes rfl rfl (s_val rfl (v_geq rfl rfl) (s_val rfl (v_pick_t rfl rfl) (s_val rfl (v_assign rfl) (x_nil (n_then (x_ret (x_done (.inl rfl) (.cons (r_tmp rfl) .nil) ?_)))))))))
          refine ⟨_, ⟨?_, rfl⟩, inferInstance⟩
          refine congrArg Value.bool ?_
          rw [Bool.eq_iff_iff, inB_iff]; simp only [Bool.false_eq_true, false_iff, decide_eq_true_eq]; omega
        · intro g3_9
          refine s_no rfl rfl rfl rfl (s_no rfl rfl rfl rfl (s_no rfl rfl rfl rfl (s_no rfl rfl rfl rfl (s_no rfl rfl rfl rfl (s_val rfl (v_pick_f rfl rfl) (s_val rfl (v_assign rfl) (x_nil (n_then (x_ret (x_done (.inl rfl) (.cons (r_tmp rfl) .nil) ?_))))))))))
          refine ⟨_, ⟨?_, rfl⟩, inferInstance⟩
          refine congrArg Value.bool ?_
          rw [Bool.eq_iff_iff, inB_iff]; simp only [Bool.false_eq_true, false_iff, decide_eq_true_eq]; omega
      · intro g3_3
        refine s_no rfl rfl rfl rfl (s_no rfl rfl rfl rfl (s_no rfl rfl rfl rfl (s_val rfl (v_pick_f rfl rfl) (s_val rfl (v_move rfl) (s_no rfl rfl rfl rfl (s_no rfl rfl rfl rfl (s_no rfl rfl rfl rfl (s_no rfl rfl rfl rfl (s_no rfl rfl rfl rfl (s_no rfl rfl rfl rfl (s_val rfl (v_pick_f rfl rfl) (s_val rfl (v_assign rfl) (x_nil (n_then (x_ret (x_done (.inl rfl) (.cons (r_tmp rfl) .nil) ?_))))))))))))))))
        refine ⟨_, ⟨?_, rfl⟩, inferInstance⟩
        refine congrArg Value.bool ?_
        rw [Bool.eq_iff_iff, inB_iff]; simp only [Bool.false_eq_true, false_iff, decide_eq_true_eq]; omega
  · intro g1_3
    refine s_no rfl rfl rfl rfl (s_val rfl (v_pick_f rfl rfl) (s_val rfl (v_move rfl) (s_no rfl rfl rfl rfl (s_no rfl rfl rfl rfl (s_val rfl (v_pick_f rfl rfl) (x_nil (n_then (x_iff rfl (x_skip (n_then (x_seq (x_region (s_val rfl (v_move rfl) (s_val rfl (v_geq rfl rfl) (s_val rfl (v_move rfl) ?_)))))))))))))))
    refine s_and rfl rfl rfl ?_ ?_
    · intro g3_3
      refine s_val rfl (v_move rfl) (s_yes rfl rfl (s_val rfl (v_move rfl) (s_yes rfl rfl (s_val rfl (v_len_slice Tryz.underlying44 rfl) (s_yes rfl rfl (s_val rfl (v_leq rfl rfl) (s_val rfl (v_pick_t rfl rfl) (s_val rfl (v_move rfl) ?_))))))))
      refine s_and rfl rfl rfl ?_ ?_
      · intro g3_9
        refine s_val rfl (v_move rfl) (s_yes rfl rfl (s_val rfl (v_len_slice Tryz.underlying44 rfl) (s_yes rfl rfl (s_val rfl (v_move rfl) (s_yes rfl rfl ?_)))))
        refine s_val rfl (v_sub rfl rfl (w64 (by omega))) ?_
        refine s_yes rfl rfl (s_val rfl (v_move rfl) (s_yes rfl rfl (s_val rfl (v_geq rfl rfl) (s_val rfl (v_pick_t rfl rfl) (s_val rfl (v_assign rfl) (x_nil (n_then (x_ret (x_done (.inl rfl) (.cons (r_tmp rfl) .nil) ?_)))))))))
        refine ⟨_, ⟨?_, rfl⟩, inferInstance⟩
        refine congrArg Value.bool ?_
        rw [Bool.eq_iff_iff, inB_iff]; simp only [Bool.false_eq_true, false_iff, decide_eq_true_eq]; omega
      · intro g3_9
        refine s_no rfl rfl rfl rfl (s_no rfl rfl rfl rfl (s_no rfl rfl rfl rfl (s_no rfl rfl rfl rfl (s_no rfl rfl rfl rfl (s_val rfl (v_pick_f rfl rfl) (s_val rfl (v_assign rfl) (x_nil (n_then (x_ret (x_done (.inl rfl) (.cons (r_tmp rfl) .nil) ?_))))))))))
        refine ⟨_, ⟨?_, rfl⟩, inferInstance⟩
        refine congrArg Value.bool ?_
        rw [Bool.eq_iff_iff, inB_iff]; simp only [Bool.false_eq_true, false_iff, decide_eq_true_eq]; omega
    · intro g3_3
      refine s_no rfl rfl rfl rfl (s_no rfl rfl rfl rfl (s_no rfl rfl rfl rfl (s_val rfl (v_pick_f rfl rfl) (s_val rfl (v_move rfl) (s_no rfl rfl rfl rfl (s_no rfl rfl rfl rfl (s_no rfl rfl rfl rfl (s_no rfl rfl rfl rfl (s_no rfl rfl rfl rfl (s_no rfl rfl rfl rfl (s_val rfl (v_pick_f rfl rfl) (s_val rfl (v_assign rfl) (x_nil (n_then (x_ret (x_done (.inl rfl) (.cons (r_tmp rfl) .nil) ?_))))))))))))))))
      refine ⟨_, ⟨?_, rfl⟩, inferInstance⟩
      refine congrArg Value.bool ?_
      rw [Bool.eq_iff_iff, inB_iff]; simp only [Bool.false_eq_true, false_iff, decide_eq_true_eq]; omega
theorem refGet02_spec (W0 : World) (R : List HP) (g off c : Nat) (l : List Nat) (at_ w : Int) (hc : Cells (OwnP W0 R) g off (byV l)) (hb : By l) (hn : l.length ≤ c) (h63 : c < 9223372036854775808) :
    Spec Tryz.prog W0 161 [.slice (some ⟨g, off, none⟩) l.length c, .int .i64 at_, .int .i64 w] R (fun v B => v = .tuple #[.int .u32 (getN l at_ w : Nat), .int .i64 (getE l at_ w)] ∧ B = R) := by
  by_cases hi : inB l.length at_ w = true
  · obtain ⟨i0, k, rfl, rfl, hk, hik⟩ := inB_nat hi
    have hlen : ((l.drop i0).take k).length = k := by simp; omega
    have hb' := (hb.drop i0).take k
    have hc' := hc.part i0 k hik
    have hget : getN l i0 k = leN ((l.drop i0).take k) := by simp [getN, hi]
    generalize (l.drop i0).take k = m at hlen hb' hc' hget
    refine spec_body Tryz.func161 Tryz.ntmps161 rfl rfl ?_
    refine x_seq (x_region (s_val rfl (v_assign rfl) (s_val rfl (v_assign rfl) (x_nil (n_then (x_seq (x_seq (x_region (s_val rfl (v_move rfl) (s_val rfl (v_move rfl) (s_val rfl (v_move rfl) ?_)))))))))))
    refine s_do rfl (d_call Tryz.call222 rfl (refIn_spec W0 _ _ l.length c i0 k (by omega))) ?_
    rintro _ B_ ⟨rfl, hB_⟩
    obtain rfl := hB_.symm
    refine s_val rfl (v_not rfl) (x_nil (n_then ?_))
    refine x_if rfl ?_ ?_
    · intro c1
      exact absurd c1 (by simp [hi])
    · intro c1
      refine x_skip (n_then (x_seq (x_region (s_val rfl (v_assign rfl) (x_nil (n_then (x_seq (x_seq (x_region (s_val rfl (v_assign rfl) (x_nil (n_then (x_block ?_)))))))))))))
      refine x_loop (fun i : Nat => i ≤ k) (fun i => [(0, .slice (some ⟨g, off, none⟩) l.length c), (1, .int .i64 i0), (2, .int .i64 k), (8, .int .u32 (leN (m.take i) : Nat)), (9, .int .i64 i)]) (fun _ => R) (fun i => k - i) 0 ?_ ?_ ?_ ?_
      · exact Nat.zero_le _
      · repeat (first | exact sub_nil | refine sub_cons rfl ?_)
      · exact inferInstance
      · intro i hik2
        refine x_seq (x_seq (x_region (s_val rfl (v_move rfl) (s_val rfl (v_move rfl) (s_val rfl (v_lss rfl rfl) (x_nil (n_then ?_)))))))
        refine x_if rfl ?_ ?_
        · intro c5
          refine x_skip (n_then (x_seq (x_block ?_)))
          have hil : i < m.length := by omega
          have hbi := hb'.get hil
          have hlt := leN_lt (hb'.take i)
          rw [List.length_take, Nat.min_eq_left (by omega)] at hlt
          refine x_region (s_val rfl (v_move rfl) (s_val rfl (v_move rfl) (s_val rfl (v_move rfl) (s_val rfl (v_move rfl) ?_))))
          refine s_val rfl (v_add rfl rfl (by rw [w64 (by omega)]; omega : IntKind.wrap .i64 ((i0 : Int) + (i : Int)) = ((i0 + i : Nat) : Int))) ?_
          refine s_val rfl (v_idx Tryz.underlying44 Tryz.sizeOf5 rfl rfl rfl (by omega) (by first | exact Nat.zero_add _ | rfl)) ?_
          refine s_val rfl (v_load Tryz.isAgg5 rfl (by have := hc' i (bV m[i]) (byV_get m i hil); rwa [Nat.mul_one, ← Nat.add_assoc])) ?_
          refine s_val rfl (v_conv Tryz.underlying5 Tryz.underlying47 rfl (w32u (by omega))) ?_
          refine s_val rfl (v_move rfl) ?_
          refine s_val rfl (v_mul rfl rfl (by rw [w64 (by omega)]; omega : IntKind.wrap .i64 (8 * (i : Int)) = ((8 * i : Nat) : Int))) ?_
          refine s_val rfl (v_shl rfl rfl (by omega) (shl_byte hbi (by omega))) ?_
          refine s_val rfl (v_add rfl rfl ((add_byte hlt hbi (by omega)).trans (congrArg _ (leN_take hil).symm))) ?_
          refine s_val rfl (v_assign rfl) (x_nil (n_block (n_then (x_region (s_val rfl (v_move rfl) ?_)))))
          refine s_val rfl (v_add rfl rfl (by first | exact w64 (by omega) | rfl)) ?_
          refine s_val rfl (v_assign rfl) (x_nil (n_then ?_))
          refine inv_intro (i + 1) ?_ ?_ ?_ ?_
          · omega
          · omega
          · repeat (first | exact sub_nil | refine sub_cons rfl ?_)
          · exact inferInstance
        · intro c5
          refine x_exit (e_then (e_then (e_block (n_then (x_seq (x_region (s_val rfl (v_move rfl) (s_val rfl (v_assign rfl) (s_val rfl (v_assign rfl) (x_nil (n_then (x_ret (x_done (.inl rfl) (.cons (r_tmp rfl) (.cons (r_tmp rfl) .nil)) ?_)))))))))))))
          refine ⟨_, ⟨?_, rfl⟩, inferInstance⟩
          have : i = m.length := by omega
          subst this; simp [pack, hget, getE, hi]
  · have hi' : inB l.length at_ w = false := by simpa using hi
    refine spec_body Tryz.func161 Tryz.ntmps161 rfl rfl ?_
    refine x_seq (x_region (s_val rfl (v_assign rfl) (s_val rfl (v_assign rfl) (x_nil (n_then (x_seq (x_seq (x_region (s_val rfl (v_move rfl) (s_val rfl (v_move rfl) (s_val rfl (v_move rfl) ?_)))))))))))
    refine s_do rfl (d_call Tryz.call222 rfl (refIn_spec W0 _ _ l.length c at_ w (by omega))) ?_
    rintro _ B_ ⟨rfl, hB_⟩
    obtain rfl := hB_.symm
    refine s_val rfl (v_not rfl) (x_nil (n_then ?_))
    refine x_if rfl ?_ ?_
    · intro c1
      refine x_seq (x_region (s_val rfl (v_assign rfl) (s_val rfl (v_assign rfl) (x_nil (n_then (x_ret (r_then (x_done (.inl rfl) (.cons (r_tmp rfl) (.cons (r_tmp rfl) .nil)) ?_))))))))
      refine ⟨_, ⟨?_, rfl⟩, inferInstance⟩
      simp [pack, getN, getE, hi']
    · intro c1
      exact absurd c1 (by simp [hi'])
end Go.Proofs.YtncegikenkpcmaaGreat
namespace Go.Proofs.YtncegikenkpcmaaGreat
open Go.RowKit
set_option linter.unusedSimpArgs false
set_option linter.unusedVariables false
set_option maxRecDepth 20000
theorem maxLen_lt {c : Nat} (h : c ≤ maxLen) : c < 9223372036854775808 := by simp only [maxLen] at h; omega
theorem put_cells {l : List Nat} {sp : List Value} {i k w : Nat} (h : i + k ≤ l.length) : setR (byV l ++ sp) i (byV (leB k w)) = byV (putB l i k w) ++ sp := by
  rw [setR_front _ _ _ _ (by rw [byV_len, byV_len, leB_len]; exact h), setR_byV h]
def putV (a : Option Addr) (n c : Nat) : Value := .tuple #[.slice a n c, .int .i64 0]
def putNo : Value := .tuple #[.slice none 0 0, .int .i64 1]
theorem octPut_ok (W0 : World) (R : List HP) (g off c : Nat) (l : List Nat) (i k w : Nat) (hw : w < 4294967296) (hc : Cells (OwnP W0 R) g off (byV l)) (hi : inB l.length i k = true) (hn : l.length ≤ 1000000) :
    Spec Tryz.prog W0 169 [.slice (some ⟨g, off, none⟩) l.length c, .int .i64 i, .int .i64 k, .int .u32 w] R (fun v B => ∃ a' c', v = putV a' l.length c' ∧ B = osl 5 1 (.slice a' l.length c') (byV (putB l i k w)) :: R) := by
  have hb := inB_iff.1 hi
  refine spec_body Tryz.func169 Tryz.ntmps169 rfl rfl ?_
  refine x_seq (x_region (s_val rfl (v_assign rfl) (s_val rfl (v_assign rfl) (x_nil (n_then (x_seq (x_region (s_val rfl (v_move rfl) (s_do rfl (d_call Tryz.call225 rfl (clone_spec W0 _ g off c l hc hn)) ?_)))))))))
  rintro _ B_ ⟨a', c', rfl, hB_⟩
  obtain rfl := hB_.symm
  refine s_val rfl (v_assign rfl) (x_nil (n_then (x_seq ?_)))
  refine run_osl (fun h _ => by have := (Value.slice.inj h).2.1; omega) fun g' n' cap sp h1 h2 h3 h4 h5 => ?_
  cases h1
  have hwv : winV g' 0 l.length i k = .tuple #[.slice (some ⟨g', i, none⟩) k k, .bool true] := by simp [winV, hi]
  refine x_region (s_val rfl (v_move rfl) (s_val rfl (v_move rfl) (s_val rfl (v_move rfl) (s_do rfl (d_call Tryz.call226 rfl (window_spec W0 _ g' 0 l.length c' i k h2 (maxLen_lt h3))) ?_))))
  rintro _ B_ ⟨rfl, hB_⟩
  obtain rfl := hB_.symm
  rw [hwv]
  refine s_val rfl (v_move rfl) (s_val rfl (v_extract rfl rfl) (s_val rfl (v_extract rfl rfl) (s_val rfl (v_assign rfl) (s_val rfl (v_assign rfl) (x_nil (n_then (x_seq (x_seq (x_region (s_val rfl (v_move rfl) (s_val rfl (v_not rfl) (x_nil (n_then ?_)))))))))))))
  refine x_if rfl ?_ ?_
  · intro c3
    exact absurd c3 (by simp)
  · intro c3
    refine x_skip (n_then (x_seq (x_region (s_val rfl (v_move rfl) (s_val rfl (v_move rfl) ?_)))))
    refine s_do rfl (d_call1 Tryz.call197 rfl (spread_spec W0 _ g' i k k 5 (byV l ++ sp) w hw (by omega) (by rw [List.length_append, byV_len]; omega))) ?_
    rintro _ B_ ⟨rfl, hB_⟩
    obtain rfl := hB_.symm
    rw [put_cells (by omega)]
    refine x_nil (n_then (x_seq (x_region (s_val rfl (v_move rfl) (s_val rfl (v_assign rfl) (s_val rfl (v_assign rfl) (x_nil (n_then (x_ret (x_done (.inl rfl) (.cons (r_tmp rfl) (.cons (r_tmp rfl) .nil)) ?_))))))))))
    exact ⟨_, ⟨_, c', rfl, rfl⟩, ent_osl h2 h3 (by rw [byV_len, putB_len (by omega), Nat.mul_one]) (by rw [← h5, List.length_append, List.length_append, byV_len, byV_len, putB_len (by omega)])⟩
theorem octPut_no (W0 : World) (R : List HP) (g off c : Nat) (l : List Nat) (at_ k : Int) (w : Nat) (hc : Cells (OwnP W0 R) g off (byV l)) (hi : inB l.length at_ k = false) (hn : l.length ≤ 1000000) :
    Spec Tryz.prog W0 169 [.slice (some ⟨g, off, none⟩) l.length c, .int .i64 at_, .int .i64 k, .int .u32 w] R (fun v B => v = putNo ∧ B = R) := by
  refine spec_body Tryz.func169 Tryz.ntmps169 rfl rfl ?_
  refine x_seq (x_region (s_val rfl (v_assign rfl) (s_val rfl (v_assign rfl) (x_nil (n_then (x_seq (x_region (s_val rfl (v_move rfl) (s_do rfl (d_call Tryz.call225 rfl (clone_spec W0 _ g off c l hc hn)) ?_)))))))))
  rintro _ B_ ⟨a', c', rfl, hB_⟩
  obtain rfl := hB_.symm
  refine s_val rfl (v_assign rfl) (x_nil (n_then (x_seq ?_)))
  obtain ⟨R', hR'⟩ : ∃ R', R' = osl 5 1 (.slice a' l.length c') (byV l) :: R := ⟨_, rfl⟩
  refine x_region (s_val rfl (v_move rfl) (s_val rfl (v_move rfl) (s_val rfl (v_move rfl) ?_)))
  refine s_do rfl (d_call Tryz.call226 rfl (windowN_spec W0 _ a' l.length c' at_ k hi (by omega))) ?_
  rintro _ B_ ⟨rfl, hB_⟩
  obtain rfl := hB_.symm
  refine s_val rfl (v_move rfl) (s_val rfl (v_extract rfl rfl) (s_val rfl (v_extract rfl rfl) (s_val rfl (v_assign rfl) (s_val rfl (v_assign rfl) (x_nil (n_then (x_seq (x_seq (x_region (s_val rfl (v_move rfl) (s_val rfl (v_not rfl) (x_nil (n_then ?_)))))))))))))
  refine x_if rfl ?_ ?_
  · intro c3
    refine x_seq (x_region (s_val rfl (v_assign rfl) (s_val rfl (v_assign rfl) (x_nil (n_then (x_ret (r_then (x_done (.inl rfl) (.cons (r_tmp rfl) (.cons (r_tmp rfl) .nil)) ?_))))))))
    exact ⟨_, ⟨rfl, rfl⟩, inferInstance⟩
  · intro c3
    exact absurd c3 (by simp)
theorem refPut_ok (W0 : World) (R : List HP) (g off c : Nat) (l : List Nat) (i0 k w : Nat) (hw : w < 4294967296) (hc : Cells (OwnP W0 R) g off (byV l)) (hi : inB l.length i0 k = true) (hn : l.length ≤ 1000000) :
    Spec Tryz.prog W0 173 [.slice (some ⟨g, off, none⟩) l.length c, .int .i64 i0, .int .i64 k, .int .u32 w] R (fun v B => ∃ a' c', v = putV a' l.length c' ∧ B = osl 5 1 (.slice a' l.length c') (byV (putB l i0 k w)) :: R) := by
  have hb := inB_iff.1 hi
  refine spec_body Tryz.func173 Tryz.ntmps173 rfl rfl ?_
  refine x_seq (x_region (s_val rfl (v_assign rfl) (s_val rfl (v_assign rfl) (x_nil (n_then (x_seq (x_seq (x_region (s_val rfl (v_move rfl) (s_val rfl (v_move rfl) (s_val rfl (v_move rfl) ?_)))))))))))
  refine s_do rfl (d_call Tryz.call222 rfl (refIn_spec W0 _ _ l.length c i0 k (by omega))) ?_
  rintro _ B_ ⟨rfl, hB_⟩
  obtain rfl := hB_.symm
  refine s_val rfl (v_not rfl) (x_nil (n_then ?_))
  refine x_if rfl ?_ ?_
  · intro c1
    exact absurd c1 (by simp [hi])
  · intro c1
    refine x_skip (n_then (x_seq (x_region (s_do rfl (d_slice0 Tryz.underlying44 Tryz.sizeOf5 rfl) ?_))))
    rintro _ _ ⟨b1, rfl, rfl⟩
    refine s_val rfl (v_move rfl) ?_
    refine s_do rfl (d_append (sz := 1) (by_ := 1) (info := Tryz.t5) Tryz.underlying44 (by kernel_rfl) rfl rfl rfl rfl (by decide) rfl rfl hc.weak ((byV_len l).trans (Nat.mul_one _).symm) (byV_one l) (by simp only [maxLen]; omega) (by omega)) ?_
    rintro _ B_ ⟨a', c', rfl, hB_⟩
    obtain rfl := hB_.symm
    simp only [Nat.zero_add, List.nil_append]
    refine s_val rfl (v_assign rfl) (x_nil (n_then (x_seq (x_seq ?_))))
    refine run_osl (fun h _ => by have := (Value.slice.inj h).2.1; omega) fun g' n' cap sp h1 h2 h3 h4 h5 => ?_
    cases h1
    refine x_region (s_val rfl (v_assign rfl) (x_nil (n_then (x_block ?_))))
    refine x_loop (fun i : Nat => i ≤ k) (fun i => [(1, .int .i64 i0), (2, .int .i64 k), (3, .int .u32 w), (10, .slice (some ⟨g', 0, none⟩) l.length c'), (11, .int .i64 i)]) (fun i => pt g' (cob (setR (byV l ++ sp) i0 (byV (leB i w))) 5) :: R) (fun i => k - i) 0 ?_ ?_ ?_ ?_
    · exact Nat.zero_le _
    · repeat (first | exact sub_nil | refine sub_cons rfl ?_)
    · rw [show setR (byV l ++ sp) i0 (byV (leB 0 w)) = byV l ++ sp from rfl]; exact inferInstance
    · intro i hik
      refine x_seq (x_seq (x_region (s_val rfl (v_move rfl) (s_val rfl (v_move rfl) (s_val rfl (v_lss rfl rfl) (x_nil (n_then ?_)))))))
      refine x_if rfl ?_ ?_
      · intro c5
        refine x_skip (n_then (x_seq (x_block (x_region (s_val rfl (v_move rfl) (s_val rfl (v_move rfl) (s_val rfl (v_move rfl) ?_)))))))
        refine s_val rfl (v_add rfl rfl (by rw [w64 (by omega)]; omega : IntKind.wrap .i64 ((i0 : Int) + (i : Int)) = ((i0 + i : Nat) : Int))) ?_
        refine s_val rfl (v_move rfl) (s_val rfl (v_move rfl) ?_)
        refine s_val rfl (v_mul rfl rfl (by rw [w64 (by omega)]; omega : IntKind.wrap .i64 (8 * (i : Int)) = ((8 * i : Nat) : Int))) ?_
        refine s_val rfl (v_shr rfl rfl (by omega) rfl) ?_
        refine s_val rfl (v_conv Tryz.underlying47 Tryz.underlying5 rfl (byte_of (by omega))) ?_
        refine s_val rfl (v_idx Tryz.underlying44 Tryz.sizeOf5 rfl rfl rfl (by omega) (by first | exact Nat.zero_add _ | rfl)) ?_
        refine s_do0 (d_store Tryz.sizeOf5 rfl rfl rfl (by rw [setR_length, List.length_append, byV_len]; omega) (by rw [leB_succ, byV_append, show byV [w / 256 ^ i % 256] = [bV (w / 256 ^ i % 256)] from rfl, setR_snoc, byV_len, leB_len, Nat.mul_one]; rfl : (setR (byV l ++ sp) i0 (byV (leB i w))).set ((i0 + i) * 1) _ = setR (byV l ++ sp) i0 (byV (leB (i + 1) w)))) ?_
        rintro _ _ rfl
        refine x_nil (n_block (n_then (x_region (s_val rfl (v_move rfl) ?_))))
        refine s_val rfl (v_add rfl rfl (by first | exact w64 (by omega) | rfl)) ?_
        refine s_val rfl (v_assign rfl) (x_nil (n_then ?_))
        refine inv_intro (i + 1) ?_ ?_ ?_ ?_
        · omega
        · omega
        · repeat (first | exact sub_nil | refine sub_cons rfl ?_)
        · exact inferInstance
      · intro c5
        refine x_exit (e_then (e_then (e_block (n_then (x_seq (x_region (s_val rfl (v_move rfl) (s_val rfl (v_assign rfl) (s_val rfl (v_assign rfl) (x_nil (n_then (x_ret (x_done (.inl rfl) (.cons (r_tmp rfl) (.cons (r_tmp rfl) .nil)) ?_)))))))))))))
        have : i = k := by omega
        subst this
        rw [put_cells (by omega)]
        exact ⟨_, ⟨_, c', rfl, rfl⟩, ent_osl h2 h3 (by rw [byV_len, putB_len (by omega), Nat.mul_one]) (by rw [← h5, List.length_append, List.length_append, byV_len, byV_len, putB_len (by omega)])⟩
theorem refPut_no (W0 : World) (R : List HP) (a : Option Addr) (n c : Nat) (at_ k : Int) (w : Nat) (hi : inB n at_ k = false) (hn : n ≤ 1000000) :
    Spec Tryz.prog W0 173 [.slice a n c, .int .i64 at_, .int .i64 k, .int .u32 w] R (fun v B => v = putNo ∧ B = R) := by
  refine spec_body Tryz.func173 Tryz.ntmps173 rfl rfl ?_
  refine x_seq (x_region (s_val rfl (v_assign rfl) (s_val rfl (v_assign rfl) (x_nil (n_then (x_seq (x_seq (x_region (s_val rfl (v_move rfl) (s_val rfl (v_move rfl) (s_val rfl (v_move rfl) ?_)))))))))))
  refine s_do rfl (d_call Tryz.call222 rfl (refIn_spec W0 _ _ n c at_ k (by omega))) ?_
  rintro _ B_ ⟨rfl, hB_⟩
  obtain rfl := hB_.symm
  refine s_val rfl (v_not rfl) (x_nil (n_then ?_))
  refine x_if rfl ?_ ?_
  · intro c1
    refine x_seq (x_region (s_val rfl (v_assign rfl) (s_val rfl (v_assign rfl) (x_nil (n_then (x_ret (r_then (x_done (.inl rfl) (.cons (r_tmp rfl) (.cons (r_tmp rfl) .nil)) ?_))))))))
    exact ⟨_, ⟨rfl, rfl⟩, inferInstance⟩
  · intro c1
    exact absurd c1 (by simp [hi])
end Go.Proofs.YtncegikenkpcmaaGreat
namespace Go.Proofs.YtncegikenkpcmaaGreat
open Go.RowKit
set_option linter.unusedSimpArgs false
set_option linter.unusedVariables false
set_option maxRecDepth 20000
abbrev Frm := List Nat
def frV (x : Frm) : List Value := (List.range 64).map (fun i => bV (x.getD i 0))
theorem frV_len (x : Frm) : (frV x).length = 64 := by simp [frV]
theorem frV_eq {x : Frm} (h : x.length = 64) : frV x = byV x := by
  apply List.ext_getElem
  · simp [frV, byV, h]
  · intro i h1 h2
    have : i < x.length := by simpa [byV] using h2
    simp [frV, byV, List.getD, this]
def Frs (fr : List Frm) : Prop := ∀ x ∈ fr, x.length = 64 ∧ By x
theorem Frs.get {fr : List Frm} (h : Frs fr) {f : Nat} (hf : f < fr.length) : (fr.getD f []).length = 64 ∧ By (fr.getD f []) := by
  have : fr.getD f [] = fr[f] := by simp [List.getD, hf]
  rw [this]; exact h _ (List.getElem_mem hf)
theorem Frs.set {fr : List Frm} (h : Frs fr) {f : Nat} {y : Frm} (hy : y.length = 64 ∧ By y) : Frs (fr.set f y) := fun x hx => by
  rcases List.mem_or_eq_of_mem_set hx with h' | rfl
  · exact h x h'
  · exact hy
theorem fr_row {fr : List Frm} (h : Frs fr) {f : Nat} (hf : f < fr.length) : ((fr.flatMap frV).drop (f * 64)).take 64 = byV (fr.getD f []) := by
  have := flat_row frV_len fr f [] hf
  rw [List.append_nil] at this
  rw [this, frV_eq (h _ (List.getElem_mem hf)).1]; simp [List.getD, hf]
theorem fr_set {fr : List Frm} {f : Nat} {y : Frm} (hf : f < fr.length) (hy : y.length = 64) : setR (fr.flatMap frV) (f * 64) (byV y) = (fr.set f y).flatMap frV := by
  have := flat_set frV_len fr f y [] hf
  rw [List.append_nil, List.append_nil, frV_eq hy] at this
  exact this
theorem fr_len (fr : List Frm) : (fr.flatMap frV).length = fr.length * 64 := flat_len frV_len fr
def zeros : Frm := List.replicate 64 0
theorem zeros_ok : zeros.length = 64 ∧ By zeros := ⟨by simp [zeros], fun b hb => by have := List.eq_of_mem_replicate hb; omega⟩
theorem Frs.new (n : Nat) : Frs (List.replicate n zeros) := fun x hx => by rw [List.eq_of_mem_replicate hx]; exact zeros_ok
theorem fr_new : ∀ n, (List.replicate n zeros).flatMap frV = List.replicate (n * 64) (bV 0)
  | 0 => rfl
  | n + 1 => by
    rw [List.replicate_succ, List.flatMap_cons, fr_new n, Nat.succ_mul, Nat.add_comm, ← List.replicate_append_replicate]
    congr 1
def stoH (ps : Nat) (fr : List Frm) : HP := chk (fun C => ∃ g, C = [pt ps (cob [.slice (some ⟨g, 0, none⟩) fr.length fr.length, .bool true] 194), pt g (cob (fr.flatMap frV) 191)])
section
variable {P : Program} {W0 : World} {N : FSz} {K : Act → World → Prop} {e : Env} {A B R R1 R2 : List HP} {ps g n : Nat} {fr : List Frm} {f : FuncId} {args : List Value} {Post : Value → List HP → Prop} {l : List Value}
theorem spec_sto (h : ∀ g, Spec P W0 f args (pt ps (cob [.slice (some ⟨g, 0, none⟩) fr.length fr.length, .bool true] 194) :: pt g (cob (fr.flatMap frV) 191) :: R) Post) : Spec P W0 f args (stoH ps fr :: R) Post :=
  spec_chk fun C hC => by obtain ⟨g, rfl⟩ := hC; exact h g
theorem ent_sto [h1 : Tk pt ps A (cob [.slice (some ⟨g, 0, none⟩) n n, .bool true] 194) R1] [h2 : Tk pt g R1 (cob l 191) R2] (hl : l = fr.flatMap frV) (hn : n = fr.length) [k : Ent R2 B] : Ent A (stoH ps fr :: B) := by
  subst hl; subst hn
  exact (Ent.ofPerm (h1.perm.trans (h2.perm.cons _))).trans ((Ent.cons (Ent.cons k)).trans (ent_chk (R := B) (C := [_, _]) ⟨g, rfl⟩))
theorem run_sto [hk : Tk stoH ps A fr R] (h : ∀ g, Run W0 N K e (pt ps (cob [.slice (some ⟨g, 0, none⟩) fr.length fr.length, .bool true] 194) :: pt g (cob (fr.flatMap frV) 191) :: R)) : Run W0 N K e A :=
  run_tk (r := stoH) (b := ps) (run_chk fun C hC => by obtain ⟨g, rfl⟩ := hC; exact h g)
end
theorem octGetN {W0 : World} {R : List HP} {g off c n : Nat} {l : List Nat} {at_ w : Int} (hl : l.length = n) (hc : Cells (OwnP W0 R) g off (byV l)) (hb : By l) (hn : n ≤ c) (h63 : c < 9223372036854775808) :
    Spec Tryz.prog W0 205 [.slice (some ⟨g, off, none⟩) n c, .int .i64 at_, .int .i64 w] R (fun v B => v = .tuple #[.int .u32 (getN l at_ w : Nat), .int .i64 (getE l at_ w)] ∧ B = R) := by
  subst hl; exact octGet_spec W0 R g off c l at_ w hc hb hn h63
theorem octPutN_ok {W0 : World} {R : List HP} {g off c n : Nat} {l : List Nat} {i k w : Nat} (hl : l.length = n) (hw : w < 4294967296) (hc : Cells (OwnP W0 R) g off (byV l)) (hi : inB n i k = true) (hn : n ≤ 1000000) :
    Spec Tryz.prog W0 169 [.slice (some ⟨g, off, none⟩) n c, .int .i64 i, .int .i64 k, .int .u32 w] R (fun v B => ∃ a' c', v = putV a' n c' ∧ B = osl 5 1 (.slice a' n c') (byV (putB l i k w)) :: R) := by
  subst hl; exact octPut_ok W0 R g off c l i k w hw hc hi hn
theorem octPutN_no {W0 : World} {R : List HP} {g off c n : Nat} {l : List Nat} {at_ k : Int} {w : Nat} (hl : l.length = n) (hc : Cells (OwnP W0 R) g off (byV l)) (hi : inB n at_ k = false) (hn : n ≤ 1000000) :
    Spec Tryz.prog W0 169 [.slice (some ⟨g, off, none⟩) n c, .int .i64 at_, .int .i64 k, .int .u32 w] R (fun v B => v = putNo ∧ B = R) := by
  subst hl; exact octPut_no W0 R g off c l at_ k w hc hi hn
theorem frNew_spec (W0 : World) (R : List HP) (n : Nat) (h : n ≤ 32) :
    Spec Tryz.prog W0 61 [.int .i64 n] R (fun v B => ∃ b, v = .tuple #[.pointer (some ⟨b, 0, none⟩), .int .i64 0] ∧ B = stoH b (List.replicate n zeros) :: R) := by
  refine spec_body Tryz.func61 Tryz.ntmps61 rfl rfl ?_
  refine x_seq (x_region (s_val rfl (v_assign rfl) (s_val rfl (v_assign rfl) (x_nil (n_then (x_seq (x_seq (x_region (s_val rfl (v_move rfl) (s_val rfl (v_lss rfl rfl) (s_val rfl (v_move rfl) ?_)))))))))))
  refine s_or rfl rfl rfl ?_ ?_
  · intro g1_3
    omega
  · intro g1_3
    refine s_val rfl (v_move rfl) (s_yes rfl rfl (s_val rfl (v_gtr rfl rfl) (s_val rfl (v_pick_f rfl rfl) (x_nil (n_then ?_)))))
    refine x_if rfl ?_ ?_
    · intro c1
      omega
    · intro c1
      refine x_skip (n_then (x_seq (x_region (s_val rfl (v_move rfl) ?_))))
      refine s_do rfl (d_make (sz := 64) (by_ := 64) (info := Tryz.t191) Tryz.underlying192 (by kernel_rfl) rfl rfl rfl rfl (by decide) rfl rfl rfl rfl (by omega) (by decide)) ?_
      rintro _ _ ⟨b1, rfl, rfl⟩
      refine s_val rfl (v_build Tryz.underlying194 Tryz.zeroValue194 (sized_cons Tryz.sizeOf192 (sized_cons Tryz.sizeOf4 sized_nil)) (fil_scal rfl Tryz.sizeOf192 rfl rfl (Nat.le_of_ble_eq_true rfl) SetL.eq (fil_scal rfl Tryz.sizeOf4 rfl rfl (Nat.le_of_ble_eq_true rfl) SetL.eq fil_nil))) ?_
      refine s_do rfl (d_boxA rfl) ?_
      rintro _ _ ⟨b2, rfl, rfl⟩
      refine s_val rfl (v_assign rfl) (s_val rfl (v_assign rfl) (x_nil (n_then (x_ret (x_done (.inl rfl) (.cons (r_tmp rfl) (.cons (r_tmp rfl) .nil)) ?_)))))
      exact ⟨_, ⟨b2, rfl, rfl⟩, ent_sto (fr_new n).symm (by simp)⟩
theorem frNone_spec (W0 : World) (R : List HP) (ps : Nat) (fr : List Frm) :
    Spec Tryz.prog W0 165 [.pointer (some ⟨ps, 0, none⟩)] (stoH ps fr :: R) (fun v B => v = .bool false ∧ B = stoH ps fr :: R) := by
  refine spec_sto fun g => ?_
  refine spec_body Tryz.func165 Tryz.ntmps165 rfl rfl ?_
  refine x_seq (x_region (s_val rfl (v_assign rfl) (x_nil (n_then (x_seq (x_region (s_val rfl (v_move rfl) (s_val rfl (v_eql_ptr_nil Tryz.underlying80 rfl rfl) (s_val rfl (v_move rfl) ?_)))))))))
  refine s_or rfl rfl rfl ?_ ?_
  · intro g1_3
    cases g1_3
  · intro g1_3
    refine s_val rfl (v_move rfl) (s_yes rfl rfl (s_val rfl (v_nilCheck rfl) (s_yes rfl rfl ?_)))
    refine s_val rfl (v_fieldAddr rfl Tryz.underlying194 rfl Tryz.sizeOf4 rfl (by first | exact Nat.zero_add _ | rfl)) ?_
    refine s_yes rfl rfl (s_val rfl (v_load Tryz.isAgg4 rfl (cell_own rfl)) ?_)
    refine s_yes rfl rfl (s_val rfl (v_not rfl) (s_val rfl (v_pick_f rfl rfl) (s_val rfl (v_assign rfl) (x_nil (n_then (x_ret (x_done (.inl rfl) (.cons (r_tmp rfl) .nil) ?_)))))))
    exact ⟨_, ⟨by simp [pack], rfl⟩, ent_sto rfl rfl⟩
theorem frLen_spec (W0 : World) (R : List HP) (ps : Nat) (fr : List Frm) :
    Spec Tryz.prog W0 130 [.pointer (some ⟨ps, 0, none⟩)] (stoH ps fr :: R) (fun v B => v = .int .i64 (fr.length : Nat) ∧ B = stoH ps fr :: R) := by
  refine spec_body Tryz.func130 Tryz.ntmps130 rfl rfl ?_
  refine x_seq (x_region (s_val rfl (v_assign rfl) (x_nil (n_then (x_seq (x_seq (x_region (s_val rfl (v_move rfl) (s_do rfl (d_call1 Tryz.call165 rfl (frNone_spec W0 _ ps fr)) ?_)))))))))
  rintro _ B_ ⟨rfl, hB_⟩
  obtain rfl := hB_.symm
  refine x_nil (n_then ?_)
  refine x_if rfl ?_ ?_
  · intro c1
    exact absurd c1 (by decide)
  · intro c1
    refine x_skip (n_then (x_seq ?_))
    refine run_sto (ps := ps) fun g => ?_
    refine x_region (s_val rfl (v_move rfl) (s_val rfl (v_nilCheck rfl) ?_))
    refine s_val rfl (v_fieldAddr rfl Tryz.underlying194 rfl Tryz.sizeOf192 rfl (by first | exact Nat.zero_add _ | rfl)) ?_
    refine s_val rfl (v_load Tryz.isAgg192 rfl (cell_own rfl)) ?_
    refine s_val rfl (v_len_slice Tryz.underlying192 rfl) (s_val rfl (v_assign rfl) (x_nil (n_then (x_ret (x_done (.inl rfl) (.cons (r_tmp rfl) .nil) ?_)))))
    exact ⟨_, ⟨rfl, rfl⟩, ent_sto rfl rfl⟩
def isF (n : Nat) (f : Int) : Bool := decide (0 ≤ f ∧ f < n)
theorem frMay_spec (W0 : World) (R : List HP) (ps : Nat) (fr : List Frm) (f : Int) :
    Spec Tryz.prog W0 103 [.pointer (some ⟨ps, 0, none⟩), .int .i64 f] (stoH ps fr :: R) (fun v B => v = .int .i64 (if isF fr.length f then 0 else 1) ∧ B = stoH ps fr :: R) := by
  refine spec_body Tryz.func103 Tryz.ntmps103 rfl rfl ?_
  refine x_seq (x_region (s_val rfl (v_assign rfl) (x_nil (n_then (x_seq (x_block (x_seq (x_region (s_val rfl (v_move rfl) (s_do rfl (d_call1 Tryz.call165 rfl (frNone_spec W0 _ ps fr)) ?_))))))))))
  rintro _ B_ ⟨rfl, hB_⟩
  obtain rfl := hB_.symm
  refine s_val rfl (v_assign rfl) (x_nil (n_then ?_))
  refine x_if rfl ?_ ?_
  · intro c1
    exact absurd c1 (by decide)
  · intro c1
    refine x_seq (x_seq (x_region (s_val rfl (v_move rfl) (s_val rfl (v_lss rfl rfl) (s_val rfl (v_assign rfl) (x_nil (n_then ?_)))))))
    refine x_if rfl ?_ ?_
    · intro c3
      refine x_skip (n_then (x_ift rfl (x_seq (x_region (s_val rfl (v_assign rfl) (x_nil (n_then (x_ret (r_block (r_then (x_done (.inl rfl) (.cons (r_tmp rfl) .nil) ?_)))))))))))
      have hf : isF fr.length f = false := by rw [← Bool.not_eq_true]; simp only [isF, decide_eq_true_eq]; omega
      first
        | exact ⟨_, ⟨by simp [pack, hf], rfl⟩, ent_sto rfl rfl⟩
        | exact ⟨_, ⟨by simp [pack, hf], rfl⟩, inferInstance⟩
    · intro c3
      refine run_sto (ps := ps) fun g => ?_
      refine x_region (s_val rfl (v_move rfl) (s_val rfl (v_move rfl) (s_val rfl (v_nilCheck rfl) ?_)))
      refine s_val rfl (v_fieldAddr rfl Tryz.underlying194 rfl Tryz.sizeOf192 rfl (by first | exact Nat.zero_add _ | rfl)) ?_
      refine s_val rfl (v_load Tryz.isAgg192 rfl (cell_own rfl)) ?_
      refine s_val rfl (v_len_slice Tryz.underlying192 rfl) (s_val rfl (v_geq rfl rfl) (s_val rfl (v_assign rfl) (x_nil (n_then ?_))))
      refine x_if rfl ?_ ?_
      · intro c4
        refine x_seq (x_region (s_val rfl (v_assign rfl) (x_nil (n_then (x_ret (r_block (r_then (x_done (.inl rfl) (.cons (r_tmp rfl) .nil) ?_))))))))
        have hf : isF fr.length f = false := by rw [← Bool.not_eq_true]; simp only [isF, decide_eq_true_eq]; omega
        first
          | exact ⟨_, ⟨by simp [pack, hf], rfl⟩, ent_sto rfl rfl⟩
          | exact ⟨_, ⟨by simp [pack, hf], rfl⟩, inferInstance⟩
      · intro c4
        refine x_skip (n_block (n_then (x_seq (x_region (s_val rfl (v_assign rfl) (x_nil (n_then (x_ret (x_done (.inl rfl) (.cons (r_tmp rfl) .nil) ?_)))))))))
        have hf : isF fr.length f = true := by simp only [isF, decide_eq_true_eq]; omega
        exact ⟨_, ⟨by simp [pack, hf], rfl⟩, ent_sto rfl rfl⟩
def ldN (fr : List Frm) (f off w : Int) : Nat := if isF fr.length f then getN (fr.getD f.toNat []) off w else 0
def ldE (fr : List Frm) (f off w : Int) : Int := if isF fr.length f then getE (fr.getD f.toNat []) off w else 1
theorem isF_nat {n : Nat} {f : Int} (h : isF n f = true) : ∃ i : Nat, f = (i : Int) ∧ i < n := by
  simp only [isF, decide_eq_true_eq] at h
  exact ⟨f.toNat, by omega, by omega⟩
theorem frLoad_spec (W0 : World) (R : List HP) (ps : Nat) (fr : List Frm) (f off w : Int) (hF : Frs fr) :
    Spec Tryz.prog W0 147 [.pointer (some ⟨ps, 0, none⟩), .int .i64 f, .int .i64 off, .int .i64 w] (stoH ps fr :: R)
      (fun v B => v = .tuple #[.int .u32 (ldN fr f off w : Nat), .int .i64 (ldE fr f off w)] ∧ B = stoH ps fr :: R) := by
  by_cases hf : isF fr.length f = true
  · obtain ⟨i, rfl, hi⟩ := isF_nat hf
    obtain ⟨hl, hb⟩ := hF.get hi
    refine spec_body Tryz.func147 Tryz.ntmps147 rfl rfl ?_
    refine x_seq (x_region (s_val rfl (v_assign rfl) (s_val rfl (v_assign rfl) (x_nil (n_then (x_seq (x_seq (x_region (s_val rfl (v_move rfl) (s_val rfl (v_move rfl) (s_do rfl (d_call1 Tryz.call103 rfl (frMay_spec W0 _ ps fr i)) ?_)))))))))))
    rintro _ B_ ⟨rfl, hB_⟩
    obtain rfl := hB_.symm
    refine s_val rfl (v_assign rfl) (x_nil (n_then (x_seq (x_region (s_val rfl (v_move rfl) (s_val rfl (v_neq rfl rfl) (x_nil (n_then ?_))))))))
    refine x_if rfl ?_ ?_
    · intro c2
      exact absurd c2 (by simp [hf])
    · intro c2
      refine x_skip (n_then (x_seq ?_))
      refine run_sto (ps := ps) fun g => ?_
      refine x_region (s_val rfl (v_move rfl) (s_val rfl (v_nilCheck rfl) ?_))
      refine s_val rfl (v_fieldAddr rfl Tryz.underlying194 rfl Tryz.sizeOf192 rfl (by first | exact Nat.zero_add _ | rfl)) ?_
      refine s_val rfl (v_load Tryz.isAgg192 rfl (cell_own rfl)) ?_
      refine s_val rfl (v_move rfl) ?_
      refine s_val rfl (v_idx Tryz.underlying192 Tryz.sizeOf191 rfl rfl rfl hi (by first | exact Nat.zero_add _ | rfl)) ?_
      refine s_val rfl (v_sliceArr Tryz.underlying191 Tryz.sizeOf5 rfl) ?_
      refine s_val rfl (v_move rfl) (s_val rfl (v_move rfl) ?_)
      refine s_do rfl (d_call Tryz.call205 rfl (octGetN hl (cells_part (fr_row hF hi) (by rw [byV_len, hl])) hb (by decide) (by decide))) ?_
      rintro _ B_ ⟨rfl, hB_⟩
      obtain rfl := hB_.symm
      refine s_val rfl (v_extract rfl rfl) (s_val rfl (v_extract rfl rfl) (s_val rfl (v_assign rfl) (s_val rfl (v_assign rfl) (x_nil (n_then (x_ret (x_done (.inl rfl) (.cons (r_tmp rfl) (.cons (r_tmp rfl) .nil)) ?_)))))))
      exact ⟨_, ⟨by simp [pack, ldN, ldE, hf], rfl⟩, ent_sto rfl rfl⟩
  · have hf' : isF fr.length f = false := by simpa using hf
    refine spec_body Tryz.func147 Tryz.ntmps147 rfl rfl ?_
    refine x_seq (x_region (s_val rfl (v_assign rfl) (s_val rfl (v_assign rfl) (x_nil (n_then (x_seq (x_seq (x_region (s_val rfl (v_move rfl) (s_val rfl (v_move rfl) (s_do rfl (d_call1 Tryz.call103 rfl (frMay_spec W0 _ ps fr f)) ?_)))))))))))
    rintro _ B_ ⟨rfl, hB_⟩
    obtain rfl := hB_.symm
    refine s_val rfl (v_assign rfl) (x_nil (n_then (x_seq (x_region (s_val rfl (v_move rfl) (s_val rfl (v_neq rfl rfl) (x_nil (n_then ?_))))))))
    refine x_if rfl ?_ ?_
    · intro c2
      refine x_seq (x_region (s_val rfl (v_move rfl) (s_val rfl (v_assign rfl) (s_val rfl (v_assign rfl) (x_nil (n_then (x_ret (r_then (x_done (.inl rfl) (.cons (r_tmp rfl) (.cons (r_tmp rfl) .nil)) ?_)))))))))
      exact ⟨_, ⟨by simp [pack, ldN, ldE, hf'], rfl⟩, inferInstance⟩
    · intro c2
      exact absurd c2 (by simp [hf'])
def svOk (fr : List Frm) (f off w : Int) : Bool := isF fr.length f && inB 64 off w
def svF (fr : List Frm) (f off w : Int) (v : Nat) : List Frm := if svOk fr f off w then fr.set f.toNat (putB (fr.getD f.toNat []) off.toNat w.toNat v) else fr
theorem svF_ok {fr : List Frm} {f off w : Int} {v : Nat} (h : Frs fr) : Frs (svF fr f off w v) := by
  unfold svF; split
  · rename_i hs
    simp only [svOk, Bool.and_eq_true] at hs
    obtain ⟨i, rfl, hi⟩ := isF_nat hs.1
    obtain ⟨o, k, rfl, rfl, hk, hok⟩ := inB_nat hs.2
    obtain ⟨hl, hb⟩ := h.get hi
    exact h.set ⟨by rw [putB_len (by simp only [Int.toNat_natCast]; omega)]; exact hl, putB_by hb⟩
  · exact h
theorem svF_len {fr : List Frm} {f off w : Int} {v : Nat} : (svF fr f off w v).length = fr.length := by unfold svF; split <;> simp
theorem frSave_spec (W0 : World) (R : List HP) (ps : Nat) (fr : List Frm) (f off w : Int) (x : Nat) (hx : x < 4294967296) (hF : Frs fr) :
    Spec Tryz.prog W0 105 [.pointer (some ⟨ps, 0, none⟩), .int .i64 f, .int .i64 off, .int .i64 w, .int .u32 x] (stoH ps fr :: R)
      (fun v B => v = .int .i64 (if svOk fr f off w then 0 else 1) ∧ B = stoH ps (svF fr f off w x) :: R) := by
  by_cases hf : isF fr.length f = true
  · obtain ⟨i, rfl, hi⟩ := isF_nat hf
    obtain ⟨hl, hb⟩ := hF.get hi
    by_cases hin : inB 64 off w = true
    · obtain ⟨o, k, rfl, rfl, hk, hok⟩ := inB_nat hin
      have hs : svOk fr i o k = true := by simp [svOk, hf, hin]
      have hpl : (putB (fr.getD i []) o k x).length = 64 := by rw [putB_len (by omega)]; exact hl
      refine spec_body Tryz.func105 Tryz.ntmps105 rfl rfl ?_
      refine x_seq (x_region (s_val rfl (v_assign rfl) (x_nil (n_then (x_seq (x_seq (x_region (s_val rfl (v_move rfl) (s_val rfl (v_move rfl) (s_do rfl (d_call1 Tryz.call103 rfl (frMay_spec W0 _ ps fr i)) ?_))))))))))
      rintro _ B_ ⟨rfl, hB_⟩
      obtain rfl := hB_.symm
      refine s_val rfl (v_assign rfl) (x_nil (n_then (x_seq (x_region (s_val rfl (v_move rfl) (s_val rfl (v_neq rfl rfl) (x_nil (n_then ?_))))))))
      refine x_if rfl ?_ ?_
      · intro c2
        exact absurd c2 (by simp [hf])
      · intro c2
        refine x_skip (n_then (x_seq ?_))
        refine run_sto (ps := ps) fun g => ?_
        refine x_region (s_val rfl (v_move rfl) (s_val rfl (v_nilCheck rfl) ?_))
        refine s_val rfl (v_fieldAddr rfl Tryz.underlying194 rfl Tryz.sizeOf192 rfl (by first | exact Nat.zero_add _ | rfl)) ?_
        refine s_val rfl (v_load Tryz.isAgg192 rfl (cell_own rfl)) ?_
        refine s_val rfl (v_move rfl) ?_
        refine s_val rfl (v_idx Tryz.underlying192 Tryz.sizeOf191 rfl rfl rfl hi (by first | exact Nat.zero_add _ | rfl)) ?_
        refine s_val rfl (v_sliceArr Tryz.underlying191 Tryz.sizeOf5 rfl) ?_
        refine s_val rfl (v_move rfl) (s_val rfl (v_move rfl) (s_val rfl (v_move rfl) ?_))
        refine s_do rfl (d_call Tryz.call169 rfl (octPutN_ok hl hx (cells_part (fr_row hF hi) (by rw [byV_len, hl])) hin (by decide))) ?_
        rintro _ B_ ⟨a', c', rfl, hB_⟩
        obtain rfl := hB_.symm
        refine s_val rfl (v_move rfl) (s_val rfl (v_extract rfl rfl) (s_val rfl (v_extract rfl rfl) (s_val rfl (v_assign rfl) (s_val rfl (v_assign rfl) (x_nil (n_then (x_seq (x_seq (x_region (s_val rfl (v_move rfl) (s_val rfl (v_neq rfl rfl) (x_nil (n_then ?_)))))))))))))
        refine x_if rfl ?_ ?_
        · intro c5
          exact absurd c5 (by simp)
        · intro c5
          refine x_skip (n_then (x_seq ?_))
          refine run_osl (fun h _ => by have := (Value.slice.inj h).2.1; omega) fun g' n' cap sp h1 h2 h3 h4 h5 => ?_
          cases h1
          refine x_region (s_val rfl (v_move rfl) (s_val rfl (v_nilCheck rfl) ?_))
          refine s_val rfl (v_fieldAddr rfl Tryz.underlying194 rfl Tryz.sizeOf192 rfl (by first | exact Nat.zero_add _ | rfl)) ?_
          refine s_val rfl (v_load Tryz.isAgg192 rfl (cell_own rfl)) ?_
          refine s_val rfl (v_move rfl) ?_
          refine s_val rfl (v_idx Tryz.underlying192 Tryz.sizeOf191 rfl rfl rfl hi (by first | exact Nat.zero_add _ | rfl)) ?_
          refine s_val rfl (v_sliceArr Tryz.underlying191 Tryz.sizeOf5 rfl) ?_
          refine s_val rfl (v_move rfl) ?_
          refine s_do rfl (d_copy Tryz.underlying44 Tryz.sizeOf5 rfl rfl (m := 64) (vs := byV (putB (fr.getD i []) o k x)) rfl (cells_part (n := 64) (by rw [List.drop_zero, List.take_left' (by rw [byV_len, hpl])]) (by rw [byV_len, hpl])) (by rw [byV_len, hpl]) (byV_one _) (by rw [fr_len]; omega) (fr_set hi hpl)) ?_
          rintro _ B_ ⟨rfl, hB_⟩
          obtain rfl := hB_.symm
          refine x_nil (n_then (x_seq (x_region (s_val rfl (v_assign rfl) (x_nil (n_then (x_ret (x_done (.inl rfl) (.cons (r_tmp rfl) .nil) ?_))))))))
          exact ⟨_, ⟨by simp [pack, hs], rfl⟩, ent_sto (by simp [svF, hs]) (by simp [svF, hs])⟩
    · have hin' : inB 64 off w = false := by simpa using hin
      have hs : svOk fr i off w = false := by simp [svOk, hin']
      refine spec_body Tryz.func105 Tryz.ntmps105 rfl rfl ?_
      refine x_seq (x_region (s_val rfl (v_assign rfl) (x_nil (n_then (x_seq (x_seq (x_region (s_val rfl (v_move rfl) (s_val rfl (v_move rfl) (s_do rfl (d_call1 Tryz.call103 rfl (frMay_spec W0 _ ps fr i)) ?_))))))))))
      rintro _ B_ ⟨rfl, hB_⟩
      obtain rfl := hB_.symm
      refine s_val rfl (v_assign rfl) (x_nil (n_then (x_seq (x_region (s_val rfl (v_move rfl) (s_val rfl (v_neq rfl rfl) (x_nil (n_then ?_))))))))
      refine x_if rfl ?_ ?_
      · intro c2
        exact absurd c2 (by simp [hf])
      · intro c2
        refine x_skip (n_then (x_seq ?_))
        refine run_sto (ps := ps) fun g => ?_
        refine x_region (s_val rfl (v_move rfl) (s_val rfl (v_nilCheck rfl) ?_))
        refine s_val rfl (v_fieldAddr rfl Tryz.underlying194 rfl Tryz.sizeOf192 rfl (by first | exact Nat.zero_add _ | rfl)) ?_
        refine s_val rfl (v_load Tryz.isAgg192 rfl (cell_own rfl)) ?_
        refine s_val rfl (v_move rfl) ?_
        refine s_val rfl (v_idx Tryz.underlying192 Tryz.sizeOf191 rfl rfl rfl hi (by first | exact Nat.zero_add _ | rfl)) ?_
        refine s_val rfl (v_sliceArr Tryz.underlying191 Tryz.sizeOf5 rfl) ?_
        refine s_val rfl (v_move rfl) (s_val rfl (v_move rfl) (s_val rfl (v_move rfl) ?_))
        refine s_do rfl (d_call Tryz.call169 rfl (octPutN_no hl (cells_part (fr_row hF hi) (by rw [byV_len, hl])) hin' (by decide))) ?_
        rintro _ B_ ⟨rfl, hB_⟩
        obtain rfl := hB_.symm
        refine s_val rfl (v_move rfl) (s_val rfl (v_extract rfl rfl) (s_val rfl (v_extract rfl rfl) (s_val rfl (v_assign rfl) (s_val rfl (v_assign rfl) (x_nil (n_then (x_seq (x_seq (x_region (s_val rfl (v_move rfl) (s_val rfl (v_neq rfl rfl) (x_nil (n_then ?_)))))))))))))
        refine x_if rfl ?_ ?_
        · intro c5
          refine x_seq (x_region (s_val rfl (v_move rfl) (s_val rfl (v_assign rfl) (x_nil (n_then (x_ret (r_then (x_done (.inl rfl) (.cons (r_tmp rfl) .nil) ?_))))))))
          exact ⟨_, ⟨by simp [pack, hs], rfl⟩, ent_sto (by simp [svF, hs]) (by simp [svF, hs])⟩
        · intro c5
          exact absurd c5 (by simp)
  · have hf' : isF fr.length f = false := by simpa using hf
    have hs : svOk fr f off w = false := by simp [svOk, hf']
    refine spec_body Tryz.func105 Tryz.ntmps105 rfl rfl ?_
    refine x_seq (x_region (s_val rfl (v_assign rfl) (x_nil (n_then (x_seq (x_seq (x_region (s_val rfl (v_move rfl) (s_val rfl (v_move rfl) (s_do rfl (d_call1 Tryz.call103 rfl (frMay_spec W0 _ ps fr f)) ?_))))))))))
    rintro _ B_ ⟨rfl, hB_⟩
    obtain rfl := hB_.symm
    refine s_val rfl (v_assign rfl) (x_nil (n_then (x_seq (x_region (s_val rfl (v_move rfl) (s_val rfl (v_neq rfl rfl) (x_nil (n_then ?_))))))))
    refine x_if rfl ?_ ?_
    · intro c2
      refine x_seq (x_region (s_val rfl (v_move rfl) (s_val rfl (v_assign rfl) (x_nil (n_then (x_ret (r_then (x_done (.inl rfl) (.cons (r_tmp rfl) .nil) ?_))))))))
      rw [show svF fr f off w x = fr by simp [svF, hs]]
      exact ⟨_, ⟨by simp [pack, hf', hs], rfl⟩, inferInstance⟩
    · intro c2
      exact absurd c2 (by simp [hf'])
end Go.Proofs.YtncegikenkpcmaaGreat
namespace Go.Proofs.YtncegikenkpcmaaGreat
open Go.RowKit
set_option linter.unusedSimpArgs false
set_option linter.unusedVariables false
set_option maxRecDepth 20000
abbrev Pl := Int × Int
@[reducible] def plV (p : Pl) : List Value := [.int .i64 p.1, .int .i64 p.2]
theorem plV_len (p : Pl) : (plV p).length = 2 := rfl
def plAt (pg : List Pl) (n : Nat) : Pl := pg.getD n (0, 0)
def okPl (p : Pl) : Bool := decide (0 ≤ p.1 ∧ p.1 < 32 ∧ 1 ≤ p.2 ∧ p.2 ≤ 3)
structure Pgs (pg : List Pl) : Prop where
  len : pg.length = 12
  ok : ∀ n, n < 12 → plAt pg n ≠ (0, 0) → okPl (plAt pg n) = true
def isP (n : Int) : Bool := decide (0 ≤ n ∧ n < 12)
theorem isP_nat {n : Int} (h : isP n = true) : ∃ i : Nat, n = (i : Int) ∧ i < 12 := by
  simp only [isP, decide_eq_true_eq] at h
  exact ⟨n.toNat, by omega, by omega⟩
abbrev gmO (pg : List Pl) : Obj := cob (pg.flatMap plV ++ [.bool true]) 215
theorem pg_row {pg : List Pl} {sp : List Value} {n : Nat} (hn : n < pg.length) : ((pg.flatMap plV ++ sp).drop (n * 2)).take 2 = plV (plAt pg n) := by
  rw [flat_row plV_len pg n sp hn]; simp [plAt, List.getD, hn]
theorem pg_set {pg : List Pl} {sp : List Value} {n : Nat} {p : Pl} (hn : n < pg.length) : setR (pg.flatMap plV ++ sp) (n * 2) (plV p) = (pg.set n p).flatMap plV ++ sp := flat_set plV_len pg n p sp hn
theorem pg_len (pg : List Pl) (sp : List Value) : (pg.flatMap plV ++ sp).length = pg.length * 2 + sp.length := by rw [List.length_append, flat_len plV_len]
theorem pg_made {pg : List Pl} (h : pg.length = 12) : (pg.flatMap plV ++ [.bool true])[24]? = some (Value.bool true) := by
  rw [List.getElem?_append_right (by rw [flat_len plV_len]; omega), flat_len plV_len, h]; rfl
theorem gmNew_spec (W0 : World) (R : List HP) : Spec Tryz.prog W0 62 [] R (fun v B => ∃ b, v = .pointer (some ⟨b, 0, none⟩) ∧ B = pt b (gmO (List.replicate 12 (0, 0))) :: R) := by
  refine spec_body Tryz.func62 Tryz.ntmps62 rfl rfl ?_
  refine x_seq (x_region (s_val rfl (v_assign rfl) (x_nil (n_then (x_seq (x_region (s_val rfl (v_build Tryz.underlying215 Tryz.zeroValue215 (sized_cons Tryz.sizeOf129 (sized_cons Tryz.sizeOf4 sized_nil)) (fil_scal rfl Tryz.sizeOf4 rfl rfl (Nat.le_of_ble_eq_true rfl) SetL.eq fil_nil)) ?_)))))))
  refine s_do rfl (d_boxA rfl) ?_
  rintro _ _ ⟨b1, rfl, rfl⟩
  refine s_val rfl (v_assign rfl) (x_nil (n_then (x_ret (x_done (.inl rfl) (.cons (r_tmp rfl) .nil) ?_))))
  exact ⟨_, ⟨b1, rfl, rfl⟩, ent_refl⟩
theorem gmNone_spec (W0 : World) (R : List HP) (b : Nat) (pg : List Pl) (h : Pgs pg) : Spec Tryz.prog W0 125 [.pointer (some ⟨b, 0, none⟩)] (pt b (gmO pg) :: R) (fun v B => v = .bool false ∧ B = pt b (gmO pg) :: R) := by
  refine spec_body Tryz.func125 Tryz.ntmps125 rfl rfl ?_
  refine x_seq (x_region (s_val rfl (v_assign rfl) (x_nil (n_then (x_seq (x_region (s_val rfl (v_move rfl) (s_val rfl (v_eql_ptr_nil Tryz.underlying123 rfl rfl) (s_val rfl (v_move rfl) ?_)))))))))
  refine s_or rfl rfl rfl ?_ ?_
  · intro g1_3
    cases g1_3
  · intro g1_3
    refine s_val rfl (v_move rfl) (s_yes rfl rfl (s_val rfl (v_nilCheck rfl) (s_yes rfl rfl ?_)))
    refine s_val rfl (v_fieldAddr rfl Tryz.underlying215 rfl Tryz.sizeOf4 rfl (by first | exact Nat.zero_add _ | rfl)) ?_
    refine s_yes rfl rfl (s_val rfl (v_load Tryz.isAgg4 rfl (cell_own (pg_made h.len))) ?_)
    refine s_yes rfl rfl (s_val rfl (v_not rfl) (s_val rfl (v_pick_f rfl rfl) (s_val rfl (v_assign rfl) (x_nil (n_then (x_ret (x_done (.inl rfl) (.cons (r_tmp rfl) .nil) ?_)))))))
    exact ⟨_, ⟨rfl, rfl⟩, inferInstance⟩
theorem gmPage_spec (W0 : World) (R : List HP) (n : Int) : Spec Tryz.prog W0 126 [.int .i64 n] R (fun v B => v = .bool (isP n) ∧ B = R) := by
  refine spec_body Tryz.func126 Tryz.ntmps126 rfl rfl ?_
  refine x_seq (x_region (s_val rfl (v_assign rfl) (x_nil (n_then (x_seq (x_region (s_val rfl (v_move rfl) (s_val rfl (v_geq rfl rfl) (s_val rfl (v_move rfl) ?_)))))))))
  refine s_and rfl rfl rfl ?_ ?_
  · intro g1_3
    refine s_val rfl (v_move rfl) (s_yes rfl rfl (s_val rfl (v_lss rfl rfl) (s_val rfl (v_pick_t rfl rfl) (s_val rfl (v_assign rfl) (x_nil (n_then (x_ret (x_done (.inl rfl) (.cons (r_tmp rfl) .nil) ?_))))))))
    refine ⟨_, ⟨?_, rfl⟩, inferInstance⟩
    refine congrArg Value.bool ?_
    rw [Bool.eq_iff_iff]; simp only [isP, decide_eq_true_eq, Bool.false_eq_true, false_iff]; omega
  · intro g1_3
    refine s_no rfl rfl rfl rfl (s_val rfl (v_pick_f rfl rfl) (s_val rfl (v_assign rfl) (x_nil (n_then (x_ret (x_done (.inl rfl) (.cons (r_tmp rfl) .nil) ?_))))))
    refine ⟨_, ⟨?_, rfl⟩, inferInstance⟩
    refine congrArg Value.bool ?_
    rw [Bool.eq_iff_iff]; simp only [isP, decide_eq_true_eq, Bool.false_eq_true, false_iff]; omega
theorem gmPlace_spec (W0 : World) (R : List HP) (p : Pl) : Spec Tryz.prog W0 127 [.agg (plV p).toArray] R (fun v B => v = .bool (okPl p) ∧ B = R) := by
  refine spec_body Tryz.func127 Tryz.ntmps127 rfl rfl ?_
  refine x_seq (x_region (s_do rfl (d_boxA rfl) ?_))
  rintro _ _ ⟨b1, rfl, rfl⟩
  refine s_val rfl (v_assign rfl) (x_nil (n_then (x_seq (x_region ?_))))
  refine s_val rfl (v_fieldAddr rfl Tryz.underlying128 rfl Tryz.sizeOf3 rfl (by first | exact Nat.zero_add _ | rfl)) ?_
  refine s_val rfl (v_load Tryz.isAgg3 rfl (cell_own rfl)) ?_
  refine s_val rfl (v_geq rfl rfl) (s_val rfl (v_move rfl) ?_)
  refine s_and rfl rfl rfl ?_ ?_
  · intro g1_4
    refine s_val rfl (v_fieldAddr rfl Tryz.underlying128 rfl Tryz.sizeOf3 rfl (by first | exact Nat.zero_add _ | rfl)) ?_
    refine s_yes rfl rfl (s_val rfl (v_load Tryz.isAgg3 rfl (cell_own rfl)) ?_)
    refine s_yes rfl rfl (s_val rfl (v_lss rfl rfl) (s_val rfl (v_pick_t rfl rfl) (s_val rfl (v_move rfl) ?_)))
    refine s_and rfl rfl rfl ?_ ?_
    · intro g1_9
      refine s_val rfl (v_fieldAddr rfl Tryz.underlying128 rfl Tryz.sizeOf3 rfl (by first | exact Nat.zero_add _ | rfl)) ?_
      refine s_yes rfl rfl (s_val rfl (v_load Tryz.isAgg3 rfl (cell_own rfl)) ?_)
      refine s_yes rfl rfl (s_val rfl (v_geq rfl rfl) (s_val rfl (v_pick_t rfl rfl) (s_val rfl (v_move rfl) ?_)))
      refine s_and rfl rfl rfl ?_ ?_
      · intro g1_14
        refine s_val rfl (v_fieldAddr rfl Tryz.underlying128 rfl Tryz.sizeOf3 rfl (by first | exact Nat.zero_add _ | rfl)) ?_
        refine s_yes rfl rfl (s_val rfl (v_load Tryz.isAgg3 rfl (cell_own rfl)) ?_)
        refine s_yes rfl rfl (s_val rfl (v_leq rfl rfl) (s_val rfl (v_pick_t rfl rfl) (s_val rfl (v_assign rfl) (x_nil (n_then (x_ret (x_done (.inl rfl) (.cons (r_tmp rfl) .nil) ?_)))))))
        refine ⟨_, ⟨?_, rfl⟩, inferInstance⟩
        refine congrArg Value.bool ?_
        rw [Bool.eq_iff_iff]; simp only [okPl, decide_eq_true_eq, Bool.false_eq_true, false_iff]; omega
      · intro g1_14
        refine s_no rfl rfl rfl rfl (s_no rfl rfl rfl rfl (s_val rfl (v_pick_f rfl rfl) (s_val rfl (v_assign rfl) (x_nil (n_then (x_ret (x_done (.inl rfl) (.cons (r_tmp rfl) .nil) ?_)))))))
        refine ⟨_, ⟨?_, rfl⟩, inferInstance⟩
        refine congrArg Value.bool ?_
        rw [Bool.eq_iff_iff]; simp only [okPl, decide_eq_true_eq, Bool.false_eq_true, false_iff]; omega
    · intro g1_9
      refine s_no rfl rfl rfl rfl (s_no rfl rfl rfl rfl (s_val rfl (v_pick_f rfl rfl) (s_val rfl (v_move rfl) (s_no rfl rfl rfl rfl (s_no rfl rfl rfl rfl (s_no rfl rfl rfl rfl (s_val rfl (v_pick_f rfl rfl) (s_val rfl (v_assign rfl) (x_nil (n_then (x_ret (x_done (.inl rfl) (.cons (r_tmp rfl) .nil) ?_))))))))))))
      refine ⟨_, ⟨?_, rfl⟩, inferInstance⟩
      refine congrArg Value.bool ?_
      rw [Bool.eq_iff_iff]; simp only [okPl, decide_eq_true_eq, Bool.false_eq_true, false_iff]; omega
  · intro g1_4
    refine s_no rfl rfl rfl rfl (s_no rfl rfl rfl rfl (s_val rfl (v_pick_f rfl rfl) (s_val rfl (v_move rfl) (s_no rfl rfl rfl rfl (s_no rfl rfl rfl rfl (s_no rfl rfl rfl rfl (s_val rfl (v_pick_f rfl rfl) (s_val rfl (v_move rfl) (s_no rfl rfl rfl rfl (s_no rfl rfl rfl rfl (s_no rfl rfl rfl rfl (s_val rfl (v_pick_f rfl rfl) (s_val rfl (v_assign rfl) (x_nil (n_then (x_ret (x_done (.inl rfl) (.cons (r_tmp rfl) .nil) ?_)))))))))))))))))
    refine ⟨_, ⟨?_, rfl⟩, inferInstance⟩
    refine congrArg Value.bool ?_
    rw [Bool.eq_iff_iff]; simp only [okPl, decide_eq_true_eq, Bool.false_eq_true, false_iff]; omega
def thereB (pg : List Pl) (n : Int) : Bool := isP n && decide (plAt pg n.toNat ≠ (0, 0))
theorem gmThere_spec (W0 : World) (R : List HP) (b : Nat) (pg : List Pl) (h : Pgs pg) (n : Int) : Spec Tryz.prog W0 128 [.pointer (some ⟨b, 0, none⟩), .int .i64 n] (pt b (gmO pg) :: R) (fun v B => v = .bool (thereB pg n) ∧ B = pt b (gmO pg) :: R) := by
  refine spec_body Tryz.func128 Tryz.ntmps128 rfl rfl ?_
  refine x_seq (x_region (s_val rfl (v_assign rfl) (x_nil (n_then (x_seq (x_region (s_val rfl (v_move rfl) (s_do rfl (d_call Tryz.call126 rfl (gmPage_spec W0 _ n)) ?_))))))))
  rintro _ B_ ⟨rfl, hB_⟩
  obtain rfl := hB_.symm
  refine s_val rfl (v_move rfl) ?_
  refine s_and rfl rfl rfl ?_ ?_
  · intro g1_3
    obtain ⟨i, rfl, hi⟩ := isP_nat g1_3
    have hl := h.len
    refine s_val rfl (v_move rfl) (s_yes rfl rfl (s_val rfl (v_move rfl) (s_yes rfl rfl (s_val rfl (v_nilCheck rfl) (s_yes rfl rfl ?_)))))
    refine s_val rfl (v_fieldAddr rfl Tryz.underlying215 rfl Tryz.sizeOf129 rfl (by first | exact Nat.zero_add _ | rfl)) ?_
    refine s_yes rfl rfl ?_
    refine s_val rfl (v_idxArr Tryz.underlying129 Tryz.sizeOf128 rfl rfl rfl (by omega) (by first | exact Nat.zero_add _ | rfl)) ?_
    refine s_yes rfl rfl ?_
    refine s_val rfl (v_loadAgg Tryz.isAgg128 Tryz.sizeOf128 rfl (cells_part (pg_row (by omega)) rfl) rfl) ?_
    refine s_yes rfl rfl (s_val rfl (v_build Tryz.underlying128 Tryz.zeroValue128 (sized_cons Tryz.sizeOf3 (sized_cons Tryz.sizeOf3 sized_nil)) fil_nil) ?_)
    refine s_yes rfl rfl (s_val rfl (v_neq_agg Tryz.eqGuardType128 rfl rfl (q_struct Tryz.underlying128 Tryz.stoodInHeld128 (qf_scal rfl Tryz.isAgg3 rfl rfl (q_int Tryz.underlying3) (qf_scal rfl Tryz.isAgg3 rfl rfl (q_int Tryz.underlying3) qf_nil)))) ?_)
    refine s_val rfl (v_pick_t rfl rfl) (s_val rfl (v_assign rfl) (x_nil (n_then (x_ret (x_done (.inl rfl) (.cons (r_tmp rfl) .nil) ?_)))))
    refine ⟨_, ⟨?_, rfl⟩, inferInstance⟩
    refine congrArg Value.bool ?_
    first
      | (rw [Bool.eq_iff_iff]; simp [thereB, g1_3, Prod.ext_iff])
      | simp [thereB, g1_3]
  · intro g1_3
    refine s_no rfl rfl rfl rfl (s_no rfl rfl rfl rfl (s_no rfl rfl rfl rfl (s_no rfl rfl rfl rfl (s_no rfl rfl rfl rfl (s_no rfl rfl rfl rfl (s_no rfl rfl rfl rfl (s_val rfl (v_pick_f rfl rfl) (s_val rfl (v_assign rfl) (x_nil (n_then (x_ret (x_done (.inl rfl) (.cons (r_tmp rfl) .nil) ?_))))))))))))
    refine ⟨_, ⟨?_, rfl⟩, inferInstance⟩
    refine congrArg Value.bool ?_
    first
      | (rw [Bool.eq_iff_iff]; simp [thereB, g1_3, Prod.ext_iff])
      | simp [thereB, g1_3]
def gGot (pg : List Pl) (n : Int) : Pl := if thereB pg n then plAt pg n.toNat else (0, 0)
theorem gmGet_spec (W0 : World) (R : List HP) (b : Nat) (pg : List Pl) (h : Pgs pg) (n : Int) : Spec Tryz.prog W0 168 [.pointer (some ⟨b, 0, none⟩), .int .i64 n] (pt b (gmO pg) :: R)
    (fun v B => v = .tuple #[.agg (plV (gGot pg n)).toArray, .bool (thereB pg n)] ∧ B = pt b (gmO pg) :: R) := by
  refine spec_body Tryz.func168 Tryz.ntmps168 rfl rfl ?_
  refine x_seq (x_region (s_do rfl (d_allocA Tryz.zeroValue128) ?_))
  rintro _ _ ⟨b1, rfl, rfl⟩
  refine s_val rfl (v_assign rfl) (x_nil (n_then (x_seq (x_seq (x_region (s_val rfl (v_move rfl) (s_do rfl (d_call1 Tryz.call125 rfl (gmNone_spec W0 _ b pg h)) ?_)))))))
  rintro _ B_ ⟨rfl, hB_⟩
  obtain rfl := hB_.symm
  refine s_val rfl (v_move rfl) ?_
  refine s_or rfl rfl rfl ?_ ?_
  · intro g1_3
    exact absurd g1_3 (by decide)
  · intro g1_3
    refine s_val rfl (v_move rfl) (s_yes rfl rfl (s_val rfl (v_move rfl) (s_yes rfl rfl (s_do rfl (d_call1 Tryz.call128 rfl (gmThere_spec W0 _ b pg h n)) ?_))))
    rintro _ B_ ⟨rfl, hB_⟩
    obtain rfl := hB_.symm
    refine s_yes rfl rfl (s_val rfl (v_not rfl) (s_val rfl (v_pick_f rfl rfl) (x_nil (n_then ?_))))
    refine x_if rfl ?_ ?_
    · intro c1
      refine x_seq (x_region (s_val rfl (v_build Tryz.underlying128 Tryz.zeroValue128 (sized_cons Tryz.sizeOf3 (sized_cons Tryz.sizeOf3 sized_nil)) fil_nil) ?_))
      refine s_do0 (d_storeAll Tryz.sizeOf128 rfl rfl rfl rfl rfl) ?_
      rintro _ _ rfl
      refine s_val rfl (v_assign rfl) (x_nil (n_then (x_ret (r_then (x_done (.inl rfl) (.cons (r_all Tryz.isAgg128 Tryz.sizeOf128 rfl rfl) (.cons (r_tmp rfl) .nil)) ?_)))))
      refine ⟨_, ⟨?_, rfl⟩, inferInstance⟩
      have ht : thereB pg n = false := by simpa using c1
      simp [pack, gGot, ht]
    · intro c1
      have ht : thereB pg n = true := by simpa using c1
      have hp : isP n = true := by simp only [thereB, Bool.and_eq_true] at ht; exact ht.1
      obtain ⟨i, rfl, hi⟩ := isP_nat hp
      have hl := h.len
      refine x_skip (n_then (x_seq (x_region (s_val rfl (v_move rfl) (s_val rfl (v_move rfl) (s_val rfl (v_nilCheck rfl) ?_))))))
      refine s_val rfl (v_fieldAddr rfl Tryz.underlying215 rfl Tryz.sizeOf129 rfl (by first | exact Nat.zero_add _ | rfl)) ?_
      refine s_val rfl (v_idxArr Tryz.underlying129 Tryz.sizeOf128 rfl rfl rfl (by omega) (by first | exact Nat.zero_add _ | rfl)) ?_
      refine s_val rfl (v_loadAgg Tryz.isAgg128 Tryz.sizeOf128 rfl (cells_part (pg_row (by omega)) rfl) rfl) ?_
      refine s_do0 (d_storeAll Tryz.sizeOf128 rfl rfl rfl rfl rfl) ?_
      rintro _ _ rfl
      refine s_val rfl (v_assign rfl) (x_nil (n_then (x_ret (x_done (.inl rfl) (.cons (r_all Tryz.isAgg128 Tryz.sizeOf128 rfl rfl) (.cons (r_tmp rfl) .nil)) ?_))))
      refine ⟨_, ⟨?_, rfl⟩, inferInstance⟩
      simp [pack, gGot, ht]
def setE (pg : List Pl) (n : Int) (p : Pl) : Int := if isP n ∧ okPl p then (if thereB pg n then 5 else 0) else 1
def setP (pg : List Pl) (n : Int) (p : Pl) : List Pl := if setE pg n p = 0 then pg.set n.toNat p else pg
theorem setP_ok {pg : List Pl} {n : Int} {p : Pl} (h : Pgs pg) : Pgs (setP pg n p) := by
  unfold setP; split
  · rename_i hs
    have hop : okPl p = true := by
      unfold setE at hs; split at hs
      · rename_i k; exact k.2
      · omega
    refine ⟨by simp [h.len], fun m hm hne => ?_⟩
    unfold plAt at hne ⊢
    by_cases e : n.toNat = m
    · subst e
      simp only [List.getD_eq_getElem?_getD, List.getElem?_set, if_true] at hne ⊢
      rw [if_pos (by rw [h.len]; exact hm)] at hne ⊢
      exact hop
    · simp only [List.getD_eq_getElem?_getD, List.getElem?_set_ne e] at hne ⊢
      have := h.ok m hm
      unfold plAt at this
      simp only [List.getD_eq_getElem?_getD] at this
      exact this hne
  · exact h
theorem gmSet_spec (W0 : World) (R : List HP) (b : Nat) (pg : List Pl) (h : Pgs pg) (n : Int) (p : Pl) : Spec Tryz.prog W0 64 [.pointer (some ⟨b, 0, none⟩), .int .i64 n, .agg (plV p).toArray] (pt b (gmO pg) :: R)
    (fun v B => v = .int .i64 (setE pg n p) ∧ B = pt b (gmO (setP pg n p)) :: R) := by
  have hl := h.len
  refine spec_body Tryz.func64 Tryz.ntmps64 rfl rfl ?_
  refine x_seq (x_region (s_do rfl (d_boxA rfl) ?_))
  rintro _ _ ⟨b1, rfl, rfl⟩
  refine s_val rfl (v_assign rfl) (x_nil (n_then (x_seq (x_block (x_seq (x_region (s_val rfl (v_move rfl) (s_do rfl (d_call1 Tryz.call125 rfl (gmNone_spec W0 _ b pg h)) ?_))))))))
  rintro _ B_ ⟨rfl, hB_⟩
  obtain rfl := hB_.symm
  refine s_val rfl (v_assign rfl) (x_nil (n_then ?_))
  refine x_if rfl ?_ ?_
  · intro c1
    exact absurd c1 (by decide)
  · intro c1
    refine x_seq (x_seq (x_region (s_val rfl (v_move rfl) (s_do rfl (d_call Tryz.call126 rfl (gmPage_spec W0 _ n)) ?_))))
    rintro _ B_ ⟨rfl, hB_⟩
    obtain rfl := hB_.symm
    refine s_val rfl (v_not rfl) (s_val rfl (v_assign rfl) (x_nil (n_then ?_)))
    refine x_if rfl ?_ ?_
    · intro c3
      refine x_skip (n_then (x_ift rfl (x_seq (x_region (s_val rfl (v_assign rfl) (x_nil (n_then (x_ret (r_block (r_then (x_done (.inl rfl) (.cons (r_tmp rfl) .nil) ?_)))))))))))
      have he : setE pg n p = 1 := by
        unfold setE; rw [if_neg]
        first
          | (intro hk; exact absurd hk.1 (by simpa using c3))
          | (intro hk; exact absurd hk.2 (by simpa using c4))
      exact ⟨_, ⟨by simp [pack, he], by rw [setP, he, if_neg (by decide)]⟩, inferInstance⟩
    · intro c3
      have hp : isP n = true := by simpa using c3
      refine x_region (s_val rfl (v_loadAll Tryz.isAgg128 Tryz.sizeOf128 rfl rfl) ?_)
      refine s_do rfl (d_call Tryz.call127 rfl (gmPlace_spec W0 _ p)) ?_
      rintro _ B_ ⟨rfl, hB_⟩
      obtain rfl := hB_.symm
      refine s_val rfl (v_not rfl) (s_val rfl (v_assign rfl) (x_nil (n_then ?_)))
      refine x_if rfl ?_ ?_
      · intro c4
        refine x_seq (x_region (s_val rfl (v_assign rfl) (x_nil (n_then (x_ret (r_block (r_then (x_done (.inl rfl) (.cons (r_tmp rfl) .nil) ?_))))))))
        have he : setE pg n p = 1 := by
          unfold setE; rw [if_neg]
          first
            | (intro hk; exact absurd hk.1 (by simpa using c3))
            | (intro hk; exact absurd hk.2 (by simpa using c4))
        exact ⟨_, ⟨by simp [pack, he], by rw [setP, he, if_neg (by decide)]⟩, inferInstance⟩
      · intro c4
        have ho : okPl p = true := by simpa using c4
        refine x_seq (x_region (s_val rfl (v_move rfl) (s_val rfl (v_move rfl) (s_do rfl (d_call1 Tryz.call128 rfl (gmThere_spec W0 _ b pg h n)) ?_))))
        rintro _ B_ ⟨rfl, hB_⟩
        obtain rfl := hB_.symm
        refine s_val rfl (v_assign rfl) (x_nil (n_then ?_))
        refine x_if rfl ?_ ?_
        · intro c6
          refine x_seq (x_region (s_val rfl (v_assign rfl) (x_nil (n_then (x_ret (r_block (r_then (x_done (.inl rfl) (.cons (r_tmp rfl) .nil) ?_))))))))
          have he : setE pg n p = 5 := by
            unfold setE; rw [if_pos ⟨hp, ho⟩, if_pos c6]
          exact ⟨_, ⟨by simp [pack, he], by rw [setP, he, if_neg (by decide)]⟩, inferInstance⟩
        · intro c6
          have ht : thereB pg n = false := by simpa using c6
          have he : setE pg n p = 0 := by simp [setE, hp, ho, ht]
          refine x_skip (n_block (n_then (x_seq ?_)))
          obtain ⟨i, rfl, hi⟩ := isP_nat hp
          refine x_draw [(b1, 0, _)] 7 mixed rfl (sc_own sc_end) (fun hS => ?_)
          refine d_take 0 rfl rfl (by kernel_rfl) (by kernel_rfl) (by kernel_rfl) rfl hS (v_move rfl) ?_
          refine d_take 1 rfl rfl (by kernel_rfl) (by kernel_rfl) (by kernel_rfl) rfl hS (v_move rfl) ?_
          refine d_take 2 rfl rfl (by kernel_rfl) (by kernel_rfl) (by kernel_rfl) rfl hS (v_loadAgg Tryz.isAgg128 Tryz.sizeOf128 rfl (cells_sc (k := 0) rfl) rfl) ?_
          refine d_take 3 rfl rfl (by kernel_rfl) (by kernel_rfl) (by kernel_rfl) rfl hS (v_nilCheck rfl) ?_
          refine d_take 4 rfl rfl (by kernel_rfl) (by kernel_rfl) (by kernel_rfl) rfl hS (v_fieldAddr rfl Tryz.underlying215 rfl Tryz.sizeOf129 rfl (by first | exact Nat.zero_add _ | rfl)) ?_
          refine d_take 5 rfl rfl (by kernel_rfl) (by kernel_rfl) (by kernel_rfl) rfl hS (v_idxArr Tryz.underlying129 Tryz.sizeOf128 rfl rfl rfl hi (by first | exact Nat.zero_add _ | rfl)) ?_
          refine d_one 6 (by kernel_rfl) rfl rfl (d_storeAgg Tryz.sizeOf128 rfl rfl rfl rfl (by rw [pg_len, hl]; omega) (pg_set (by omega))) rfl ?_; clear hS
          rintro _ _ rfl
          refine ⟨(sc_own sc_end), fun hS => ?_⟩
          refine d_done (by kernel_rfl) ?_; clear hS
          refine n_then (x_seq (x_region (s_val rfl (v_assign rfl) (x_nil (n_then (x_ret (x_done (.inl rfl) (.cons (r_tmp rfl) .nil) ?_)))))))
          rw [show setP pg i p = pg.set i p by simp [setP, he]]
          exact ⟨_, ⟨by simp [pack, he], rfl⟩, inferInstance⟩
theorem gmDrop_spec (W0 : World) (R : List HP) (b : Nat) (pg : List Pl) (h : Pgs pg) : Spec Tryz.prog W0 131 [.pointer (some ⟨b, 0, none⟩), .int .i64 12] (pt b (gmO pg) :: R)
    (fun v B => v = .int .i64 1 ∧ B = pt b (gmO pg) :: R) := by
  refine spec_body Tryz.func131 Tryz.ntmps131 rfl rfl ?_
  refine x_seq (x_region (s_val rfl (v_assign rfl) (x_nil (n_then (x_seq (x_block (x_seq (x_region (s_val rfl (v_move rfl) (s_do rfl (d_call1 Tryz.call125 rfl (gmNone_spec W0 _ b pg h)) ?_))))))))))
  rintro _ B_ ⟨rfl, hB_⟩
  obtain rfl := hB_.symm
  refine s_val rfl (v_assign rfl) (x_nil (n_then ?_))
  refine x_if rfl ?_ ?_
  · intro c1
    exact absurd c1 (by decide)
  · intro c1
    refine x_seq (x_region (s_val rfl (v_move rfl) (s_do rfl (d_call Tryz.call126 rfl (gmPage_spec W0 _ 12)) ?_)))
    rintro _ B_ ⟨rfl, hB_⟩
    obtain rfl := hB_.symm
    refine s_val rfl (v_not rfl) (s_val rfl (v_assign rfl) (x_nil (n_then ?_)))
    refine x_if rfl ?_ ?_
    · intro c3
      refine x_seq (x_region (s_val rfl (v_assign rfl) (x_nil (n_then (x_ret (r_block (r_then (x_done (.inl rfl) (.cons (r_tmp rfl) .nil) ?_))))))))
      exact ⟨_, ⟨rfl, rfl⟩, inferInstance⟩
    · intro c3
      exact absurd c3 (by decide)
def mayB (n : Int) (p : Pl) (kind : Int) : Bool := decide (kind = 0 ∧ n < 8 ∨ kind = 1 ∧ p.2 % 2 = 1 ∨ kind = 2 ∧ 2 ≤ p.2)
theorem okPl_iff {p : Pl} : okPl p = true ↔ 0 ≤ p.1 ∧ p.1 < 32 ∧ 1 ≤ p.2 ∧ p.2 ≤ 3 := by simp [okPl]
theorem and13 {r : Int} (h : 1 ≤ r ∧ r ≤ 3) : bAnd .i64 r 1 = r % 2 := by
  have : r = 1 ∨ r = 2 ∨ r = 3 := by omega
  rcases this with rfl | rfl | rfl <;> decide
theorem and23 {r : Int} (h : 1 ≤ r ∧ r ≤ 3) : bAnd .i64 r 2 = r / 2 * 2 := by
  have : r = 1 ∨ r = 2 ∨ r = 3 := by omega
  rcases this with rfl | rfl | rfl <;> decide
theorem gmMay_spec (W0 : World) (R : List HP) (n : Int) (p : Pl) (hp : okPl p = true) (kind : Int) : Spec Tryz.prog W0 224 [.int .i64 n, .agg (plV p).toArray, .int .i64 kind] R (fun v B => v = .bool (mayB n p kind) ∧ B = R) := by
  have ho := okPl_iff.1 hp
  refine spec_body Tryz.func224 Tryz.ntmps224 rfl rfl ?_
  refine x_seq (x_region (s_do rfl (d_boxA rfl) ?_))
  rintro _ _ ⟨b1, rfl, rfl⟩
  refine s_val rfl (v_assign rfl) (x_nil (n_then (x_seq (x_seq (x_region (s_val rfl (v_move rfl) (x_nil (n_then (x_block (x_seq (x_region (s_val rfl (v_eql rfl rfl) (s_val rfl (v_assign rfl) (x_nil (n_then ?_)))))))))))))))
  refine x_if rfl ?_ ?_
  · intro c2
    refine x_seq (x_region (s_val rfl (v_move rfl) (s_val rfl (v_lss rfl rfl) (s_val rfl (v_assign rfl) (x_nil (n_then (x_ret (r_block (r_then (x_done (.inl rfl) (.cons (r_tmp rfl) .nil) ?_))))))))))
    refine ⟨_, ⟨?_, rfl⟩, inferInstance⟩
    refine congrArg Value.bool ?_
    rw [Bool.eq_iff_iff]; simp only [mayB, decide_eq_true_eq, Bool.false_eq_true, false_iff, bne_iff_ne]; omega
  · intro c2
    refine x_seq (x_region (s_val rfl (v_eql rfl rfl) (s_val rfl (v_assign rfl) (x_nil (n_then ?_)))))
    refine x_if rfl ?_ ?_
    · intro c4
      refine x_seq (x_region ?_)
      refine s_val rfl (v_fieldAddr rfl Tryz.underlying128 rfl Tryz.sizeOf3 rfl (by first | exact Nat.zero_add _ | rfl)) ?_
      refine s_val rfl (v_load Tryz.isAgg3 rfl (cell_own rfl)) ?_
      refine s_val rfl (v_and rfl rfl (and13 ⟨ho.2.2.1, ho.2.2.2⟩)) ?_
      refine s_val rfl (v_neq rfl rfl) (s_val rfl (v_assign rfl) (x_nil (n_then (x_ret (r_block (r_then (x_done (.inl rfl) (.cons (r_tmp rfl) .nil) ?_)))))))
      refine ⟨_, ⟨?_, rfl⟩, inferInstance⟩
      refine congrArg Value.bool ?_
      rw [Bool.eq_iff_iff]; simp only [mayB, decide_eq_true_eq, Bool.false_eq_true, false_iff, bne_iff_ne]; omega
    · intro c4
      refine x_seq (x_region (s_val rfl (v_eql rfl rfl) (s_val rfl (v_assign rfl) (x_nil (n_then ?_)))))
      refine x_if rfl ?_ ?_
      · intro c6
        refine x_seq (x_region ?_)
        refine s_val rfl (v_fieldAddr rfl Tryz.underlying128 rfl Tryz.sizeOf3 rfl (by first | exact Nat.zero_add _ | rfl)) ?_
        refine s_val rfl (v_load Tryz.isAgg3 rfl (cell_own rfl)) ?_
        refine s_val rfl (v_and rfl rfl (and23 ⟨ho.2.2.1, ho.2.2.2⟩)) ?_
        refine s_val rfl (v_neq rfl rfl) (s_val rfl (v_assign rfl) (x_nil (n_then (x_ret (r_block (r_then (x_done (.inl rfl) (.cons (r_tmp rfl) .nil) ?_)))))))
        refine ⟨_, ⟨?_, rfl⟩, inferInstance⟩
        refine congrArg Value.bool ?_
        rw [Bool.eq_iff_iff]; simp only [mayB, decide_eq_true_eq, Bool.false_eq_true, false_iff, bne_iff_ne]; omega
      · intro c6
        refine x_skip (n_block (n_then (x_seq (x_region (s_val rfl (v_assign rfl) (x_nil (n_then (x_ret (x_done (.inl rfl) (.cons (r_tmp rfl) .nil) ?_)))))))))
        refine ⟨_, ⟨?_, rfl⟩, inferInstance⟩
        refine congrArg Value.bool ?_
        rw [Bool.eq_iff_iff]; simp only [mayB, decide_eq_true_eq, Bool.false_eq_true, false_iff, bne_iff_ne]; omega
def alwE (pg : List Pl) (n kind : Int) : Int := if thereB pg n then (if mayB n (plAt pg n.toNat) kind then 0 else 6) else 7
theorem gGot_ok {pg : List Pl} {n : Int} (h : Pgs pg) (ht : thereB pg n = true) : okPl (gGot pg n) = true := by
  simp only [gGot, ht, if_true]
  simp only [thereB, Bool.and_eq_true, decide_eq_true_eq] at ht
  obtain ⟨i, rfl, hi⟩ := isP_nat ht.1
  exact h.ok _ (by simpa using hi) ht.2
theorem gmAllows_spec (W0 : World) (R : List HP) (b : Nat) (pg : List Pl) (h : Pgs pg) (n kind : Int) : Spec Tryz.prog W0 167 [.pointer (some ⟨b, 0, none⟩), .int .i64 n, .int .i64 kind] (pt b (gmO pg) :: R)
    (fun v B => v = .int .i64 (alwE pg n kind) ∧ B = pt b (gmO pg) :: R) := by
  refine spec_body Tryz.func167 Tryz.ntmps167 rfl rfl ?_
  refine x_seq (x_region (s_val rfl (v_assign rfl) (x_nil (n_then (x_seq (x_region (s_val rfl (v_move rfl) (s_val rfl (v_move rfl) (s_do rfl (d_call1 Tryz.call168 rfl (gmGet_spec W0 _ b pg h n)) ?_)))))))))
  rintro _ B_ ⟨rfl, hB_⟩
  obtain rfl := hB_.symm
  refine s_val rfl (v_move rfl) (s_val rfl (v_extract rfl rfl) (s_val rfl (v_extract rfl rfl) (s_do rfl (d_allocA Tryz.zeroValue128) ?_)))
  rintro _ _ ⟨b1, rfl, rfl⟩
  refine s_do0 (d_storeAll Tryz.sizeOf128 rfl rfl rfl rfl rfl) ?_
  rintro _ _ rfl
  refine s_val rfl (v_assign rfl) (x_nil (n_then (x_seq (x_block (x_seq (x_region (s_val rfl (v_move rfl) (s_val rfl (v_not rfl) (s_val rfl (v_assign rfl) (x_nil (n_then ?_)))))))))))
  refine x_if rfl ?_ ?_
  · intro c2
    refine x_seq (x_region (s_val rfl (v_assign rfl) (x_nil (n_then (x_ret (r_block (r_then (x_done (.inl rfl) (.cons (r_tmp rfl) .nil) ?_))))))))
    refine ⟨_, ⟨?_, rfl⟩, inferInstance⟩
    have ht : thereB pg n = false := by simpa using c2
    simp [pack, alwE, ht]
  · intro c2
    have ht : thereB pg n = true := by simpa using c2
    refine x_seq (x_region (s_val rfl (v_move rfl) (s_val rfl (v_loadAll Tryz.isAgg128 Tryz.sizeOf128 rfl rfl) ?_)))
    refine s_val rfl (v_move rfl) (s_do rfl (d_call Tryz.call224 rfl (gmMay_spec W0 _ n (gGot pg n) (gGot_ok h ht) kind)) ?_)
    rintro _ B_ ⟨rfl, hB_⟩
    obtain rfl := hB_.symm
    refine s_val rfl (v_not rfl) (s_val rfl (v_assign rfl) (x_nil (n_then ?_)))
    refine x_if rfl ?_ ?_
    · intro c4
      refine x_seq (x_region (s_val rfl (v_assign rfl) (x_nil (n_then (x_ret (r_block (r_then (x_done (.inl rfl) (.cons (r_tmp rfl) .nil) ?_))))))))
      refine ⟨_, ⟨?_, rfl⟩, inferInstance⟩
      have hm : mayB n (plAt pg n.toNat) kind = false := by simpa [gGot, ht] using c4
      simp [pack, alwE, ht, hm]
    · intro c4
      refine x_skip (n_block (n_then (x_seq (x_region (s_val rfl (v_assign rfl) (x_nil (n_then (x_ret (x_done (.inl rfl) (.cons (r_tmp rfl) .nil) ?_)))))))))
      refine ⟨_, ⟨?_, rfl⟩, inferInstance⟩
      have hm : mayB n (plAt pg n.toNat) kind = true := by simpa [gGot, ht] using c4
      simp [pack, alwE, ht, hm]
end Go.Proofs.YtncegikenkpcmaaGreat
namespace Go.Proofs.YtncegikenkpcmaaGreat
open Go.RowKit
set_option linter.unusedSimpArgs false
set_option linter.unusedVariables false
set_option maxRecDepth 20000
abbrev viO (ps pm d : Nat) : Obj := cob [.pointer (some ⟨ps, 0, none⟩), .pointer (some ⟨pm, 0, none⟩), .int .u32 (d : Nat)] 188
theorem viNone_spec (W0 : World) (R : List HP) (pv ps pm d : Nat) : Spec Tryz.prog W0 102 [.pointer (some ⟨pv, 0, none⟩)] (pt pv (viO ps pm d) :: R) (fun v B => v = .bool false ∧ B = pt pv (viO ps pm d) :: R) := by
  refine spec_body Tryz.func102 Tryz.ntmps102 rfl rfl ?_
  refine x_seq (x_region (s_val rfl (v_assign rfl) (x_nil (n_then (x_seq (x_region (s_val rfl (v_move rfl) (s_val rfl (v_eql_ptr_nil Tryz.underlying51 rfl rfl) (s_val rfl (v_move rfl) ?_)))))))))
  refine s_or rfl rfl rfl ?_ ?_
  · intro g1_3
    cases g1_3
  · intro g1_3
    refine s_val rfl (v_move rfl) (s_yes rfl rfl (s_val rfl (v_nilCheck rfl) (s_yes rfl rfl ?_)))
    refine s_val rfl (v_fieldAddr rfl Tryz.underlying188 rfl Tryz.sizeOf80 rfl (by first | exact Nat.zero_add _ | rfl)) ?_
    refine s_yes rfl rfl (s_val rfl (v_load Tryz.isAgg80 rfl (cell_own rfl)) ?_)
    refine s_yes rfl rfl (s_val rfl (v_eql_ptr_nil Tryz.underlying80 rfl rfl) (s_val rfl (v_pick_f rfl rfl) (s_val rfl (v_assign rfl) (x_nil (n_then (x_ret (x_done (.inl rfl) (.cons (r_tmp rfl) .nil) ?_)))))))
    exact ⟨_, ⟨rfl, rfl⟩, inferInstance⟩
def alB (pa : Nat) (w : Int) : Bool := decide ((w = 1 ∨ w = 2 ∨ w = 4) ∧ (pa : Int) % w = 0)
theorem viAligned_spec (W0 : World) (R : List HP) (pa : Nat) (hpa : pa < 4294967296) (w : Int) : Spec Tryz.prog W0 166 [.int .u32 pa, .int .i64 w] R (fun v B => v = .bool (alB pa w) ∧ B = R) := by
  refine spec_body Tryz.func166 Tryz.ntmps166 rfl rfl ?_
  refine x_seq (x_region (s_val rfl (v_assign rfl) (x_nil (n_then (x_seq (x_seq (x_region (s_val rfl (v_move rfl) (x_nil (n_then (x_block (x_seq (x_seq (x_region (s_val rfl (v_eql rfl rfl) (s_val rfl (v_assign rfl) (x_nil (n_then ?_))))))))))))))))))
  refine x_if rfl ?_ ?_
  · intro c2
    refine x_skip (n_then (x_ift rfl (x_seq (x_region (s_val rfl (v_move rfl) (s_val rfl (v_move rfl) ?_))))))
    refine s_val rfl (v_conv Tryz.underlying3 Tryz.underlying47 rfl (w32u (by omega))) ?_
    refine s_val rfl (v_rem rfl rfl (by omega) (Int.tmod_eq_emod_of_nonneg (by omega))) ?_
    refine s_val rfl (v_eql rfl rfl) (s_val rfl (v_assign rfl) (x_nil (n_then (x_ret (r_block (r_then (x_done (.inl rfl) (.cons (r_tmp rfl) .nil) ?_)))))))
    refine ⟨_, ⟨?_, rfl⟩, inferInstance⟩
    refine congrArg Value.bool ?_
    rw [Bool.eq_iff_iff]; simp only [alB, decide_eq_true_eq, beq_iff_eq]
    first
      | (subst c2; simp)
      | (subst c3; simp)
      | (subst c4; simp)
  · intro c2
    refine x_seq (x_region (s_val rfl (v_eql rfl rfl) (s_val rfl (v_assign rfl) (x_nil (n_then ?_)))))
    refine x_if rfl ?_ ?_
    · intro c3
      refine x_skip (n_then (x_ift rfl (x_seq (x_region (s_val rfl (v_move rfl) (s_val rfl (v_move rfl) ?_))))))
      refine s_val rfl (v_conv Tryz.underlying3 Tryz.underlying47 rfl (w32u (by omega))) ?_
      refine s_val rfl (v_rem rfl rfl (by omega) (Int.tmod_eq_emod_of_nonneg (by omega))) ?_
      refine s_val rfl (v_eql rfl rfl) (s_val rfl (v_assign rfl) (x_nil (n_then (x_ret (r_block (r_then (x_done (.inl rfl) (.cons (r_tmp rfl) .nil) ?_)))))))
      refine ⟨_, ⟨?_, rfl⟩, inferInstance⟩
      refine congrArg Value.bool ?_
      rw [Bool.eq_iff_iff]; simp only [alB, decide_eq_true_eq, beq_iff_eq]
      first
        | (subst c2; simp)
        | (subst c3; simp)
        | (subst c4; simp)
    · intro c3
      refine x_region (s_val rfl (v_eql rfl rfl) (s_val rfl (v_assign rfl) (x_nil (n_then ?_))))
      refine x_if rfl ?_ ?_
      · intro c4
        refine x_seq (x_region (s_val rfl (v_move rfl) (s_val rfl (v_move rfl) ?_)))
        refine s_val rfl (v_conv Tryz.underlying3 Tryz.underlying47 rfl (w32u (by omega))) ?_
        refine s_val rfl (v_rem rfl rfl (by omega) (Int.tmod_eq_emod_of_nonneg (by omega))) ?_
        refine s_val rfl (v_eql rfl rfl) (s_val rfl (v_assign rfl) (x_nil (n_then (x_ret (r_block (r_then (x_done (.inl rfl) (.cons (r_tmp rfl) .nil) ?_)))))))
        refine ⟨_, ⟨?_, rfl⟩, inferInstance⟩
        refine congrArg Value.bool ?_
        rw [Bool.eq_iff_iff]; simp only [alB, decide_eq_true_eq, beq_iff_eq]
        first
          | (subst c2; simp)
          | (subst c3; simp)
          | (subst c4; simp)
      · intro c4
        refine x_skip (n_block (n_then (x_seq (x_region (s_val rfl (v_assign rfl) (x_nil (n_then (x_ret (x_done (.inl rfl) (.cons (r_tmp rfl) .nil) ?_)))))))))
        refine ⟨_, ⟨?_, rfl⟩, inferInstance⟩
        refine congrArg Value.bool ?_
        rw [Bool.eq_iff_iff]; simp only [alB, decide_eq_true_eq, Bool.false_eq_true, false_iff]; omega
def fndE (n : Nat) (pg : List Pl) (pa : Nat) (w kind : Int) : Int :=
  if alB pa w then (if pa < 768 then (if alwE pg ((pa / 64 : Nat) : Int) kind = 0 then (if (gGot pg ((pa / 64 : Nat) : Int)).1 < n then 0 else 7) else alwE pg ((pa / 64 : Nat) : Int) kind) else 2) else 1
def fndV (n : Nat) (pg : List Pl) (pa : Nat) (w kind : Int) : List Value :=
  if fndE n pg pa w kind = 0 then [.int .i64 (pa / 64 : Nat), .int .i64 (gGot pg ((pa / 64 : Nat) : Int)).1, .int .i64 (pa % 64 : Nat), .bool false] else [.int .i64 0, .int .i64 0, .int .i64 0, .bool false]
theorem viFind_spec (W0 : World) (R : List HP) (pv ps pm d : Nat) (fr : List Frm) (pg : List Pl) (h : Pgs pg) (pa : Nat) (hpa : pa < 4294967296) (w kind : Int) :
    Spec Tryz.prog W0 104 [.pointer (some ⟨pv, 0, none⟩), .int .u32 pa, .int .i64 w, .int .i64 kind] (pt pv (viO ps pm d) :: stoH ps fr :: pt pm (gmO pg) :: R)
      (fun v B => v = .tuple #[.agg (fndV fr.length pg pa w kind).toArray, .int .i64 (fndE fr.length pg pa w kind)] ∧ B = pt pv (viO ps pm d) :: stoH ps fr :: pt pm (gmO pg) :: R) := by
  refine spec_body Tryz.func104 Tryz.ntmps104 rfl rfl ?_
  refine x_seq (x_region (s_do rfl (d_allocA Tryz.zeroValue196) ?_))
  rintro _ _ ⟨b1, rfl, rfl⟩
  refine s_val rfl (v_assign rfl) (x_nil (n_then (x_seq (x_block (x_seq (x_region (s_val rfl (v_move rfl) (s_do rfl (d_call1 Tryz.call102 rfl (viNone_spec W0 _ pv ps pm d)) ?_))))))))
  rintro _ B_ ⟨rfl, hB_⟩
  obtain rfl := hB_.symm
  refine s_val rfl (v_assign rfl) (x_nil (n_then ?_))
  refine x_if rfl ?_ ?_
  · intro c1
    exact absurd c1 (by decide)
  · intro c1
    refine x_seq (x_region (s_val rfl (v_move rfl) (s_val rfl (v_move rfl) (s_do rfl (d_call Tryz.call166 rfl (viAligned_spec W0 _ pa hpa w)) ?_))))
    rintro _ B_ ⟨rfl, hB_⟩
    obtain rfl := hB_.symm
    refine s_val rfl (v_not rfl) (s_val rfl (v_assign rfl) (x_nil (n_then ?_)))
    refine x_if rfl ?_ ?_
    · intro c3
      refine x_seq (x_region (s_val rfl (v_build Tryz.underlying196 Tryz.zeroValue196 (sized_cons Tryz.sizeOf3 (sized_cons Tryz.sizeOf3 (sized_cons Tryz.sizeOf3 (sized_cons Tryz.sizeOf4 sized_nil)))) fil_nil) ?_))
      refine s_do0 (d_storeAll Tryz.sizeOf196 rfl rfl rfl rfl rfl) ?_
      rintro _ _ rfl
      refine s_val rfl (v_assign rfl) (x_nil (n_then (x_ret (r_block (r_then (x_done (.inl rfl) (.cons (r_all Tryz.isAgg196 Tryz.sizeOf196 rfl rfl) (.cons (r_tmp rfl) .nil)) ?_))))))
      refine ⟨_, ⟨?_, rfl⟩, inferInstance⟩
      have ha : alB pa w = false := by simpa using c3
      have he : fndE fr.length pg pa w kind = 1 := by simp [fndE, ha]
      simp [pack, fndV, he]
    · intro c3
      have ha : alB pa w = true := by simpa using c3
      refine x_seq (x_region (s_val rfl (v_move rfl) (s_val rfl (v_geq rfl rfl) (s_val rfl (v_assign rfl) (x_nil (n_then ?_))))))
      refine x_if rfl ?_ ?_
      · intro c5
        refine x_seq (x_region (s_val rfl (v_build Tryz.underlying196 Tryz.zeroValue196 (sized_cons Tryz.sizeOf3 (sized_cons Tryz.sizeOf3 (sized_cons Tryz.sizeOf3 (sized_cons Tryz.sizeOf4 sized_nil)))) fil_nil) ?_))
        refine s_do0 (d_storeAll Tryz.sizeOf196 rfl rfl rfl rfl rfl) ?_
        rintro _ _ rfl
        refine s_val rfl (v_assign rfl) (x_nil (n_then (x_ret (r_block (r_then (x_done (.inl rfl) (.cons (r_all Tryz.isAgg196 Tryz.sizeOf196 rfl rfl) (.cons (r_tmp rfl) .nil)) ?_))))))
        refine ⟨_, ⟨?_, rfl⟩, inferInstance⟩
        have he : fndE fr.length pg pa w kind = 2 := by unfold fndE; rw [if_pos ha, if_neg (by omega)]
        simp [pack, fndV, he]
      · intro c5
        refine x_skip (n_block (n_then (x_seq (x_region (s_val rfl (v_move rfl) ?_)))))
        refine s_val rfl (v_quo rfl rfl (by decide) ((congrArg (IntKind.wrap .u32) (tdivN pa 64)).trans (w32u (by omega)))) ?_
        refine s_val rfl (v_conv Tryz.underlying47 Tryz.underlying3 rfl (w64 (by omega))) ?_
        refine s_val rfl (v_assign rfl) (x_nil (n_then (x_seq (x_seq (x_region (s_val rfl (v_move rfl) (s_val rfl (v_nilCheck rfl) ?_)))))))
        refine s_val rfl (v_fieldAddr rfl Tryz.underlying188 rfl Tryz.sizeOf123 rfl (by first | exact Nat.zero_add _ | rfl)) ?_
        refine s_val rfl (v_load Tryz.isAgg123 rfl (cell_own rfl)) ?_
        refine s_val rfl (v_move rfl) (s_val rfl (v_move rfl) (s_do rfl (d_call1 Tryz.call167 rfl (gmAllows_spec W0 _ pm pg h ((pa / 64 : Nat) : Int) kind)) ?_))
        rintro _ B_ ⟨rfl, hB_⟩
        obtain rfl := hB_.symm
        refine s_val rfl (v_assign rfl) (x_nil (n_then (x_seq (x_region (s_val rfl (v_move rfl) (s_val rfl (v_neq rfl rfl) (x_nil (n_then ?_))))))))
        refine x_if rfl ?_ ?_
        · intro c9
          refine x_seq (x_region (s_val rfl (v_build Tryz.underlying196 Tryz.zeroValue196 (sized_cons Tryz.sizeOf3 (sized_cons Tryz.sizeOf3 (sized_cons Tryz.sizeOf3 (sized_cons Tryz.sizeOf4 sized_nil)))) fil_nil) ?_))
          refine s_val rfl (v_move rfl) (s_do0 (d_storeAll Tryz.sizeOf196 rfl rfl rfl rfl rfl) ?_)
          rintro _ _ rfl
          refine s_val rfl (v_assign rfl) (x_nil (n_then (x_ret (r_then (x_done (.inl rfl) (.cons (r_all Tryz.isAgg196 Tryz.sizeOf196 rfl rfl) (.cons (r_tmp rfl) .nil)) ?_)))))
          refine ⟨_, ⟨?_, rfl⟩, inferInstance⟩
          have he : fndE fr.length pg pa w kind = alwE pg ((pa / 64 : Nat) : Int) kind := by unfold fndE; rw [if_pos ha, if_pos (by omega), if_neg c9]
          rw [fndV, if_neg (by rw [he]; exact c9), he]; rfl
        · intro c9
          have hz : alwE pg ((pa / 64 : Nat) : Int) kind = 0 := by simpa using c9
          refine x_skip (n_then (x_seq (x_region (s_val rfl (v_move rfl) (s_val rfl (v_nilCheck rfl) ?_)))))
          refine s_val rfl (v_fieldAddr rfl Tryz.underlying188 rfl Tryz.sizeOf123 rfl (by first | exact Nat.zero_add _ | rfl)) ?_
          refine s_val rfl (v_load Tryz.isAgg123 rfl (cell_own rfl)) ?_
          refine s_val rfl (v_move rfl) (s_do rfl (d_call1 Tryz.call168 rfl (gmGet_spec W0 _ pm pg h ((pa / 64 : Nat) : Int))) ?_)
          rintro _ B_ ⟨rfl, hB_⟩
          obtain rfl := hB_.symm
          refine s_val rfl (v_move rfl) (s_val rfl (v_extract rfl rfl) (s_val rfl (v_extract rfl rfl) (s_do rfl (d_allocA Tryz.zeroValue128) ?_)))
          rintro _ _ ⟨b2, rfl, rfl⟩
          refine s_do0 (d_storeAll Tryz.sizeOf128 rfl rfl rfl rfl rfl) ?_
          rintro _ _ rfl
          refine s_val rfl (v_assign rfl) (x_nil (n_then (x_seq (x_seq ?_))))
          refine x_draw [(b2, 0, _), (pv, 0, _)] 8 mixed rfl (sc_own (sc_own sc_end)) (fun hS => ?_)
          refine d_take 0 rfl rfl (by kernel_rfl) (by kernel_rfl) (by kernel_rfl) rfl hS (v_fieldAddr rfl Tryz.underlying128 rfl Tryz.sizeOf3 rfl (by first | exact Nat.zero_add _ | rfl)) ?_
          refine d_take 1 rfl rfl (by kernel_rfl) (by kernel_rfl) (by kernel_rfl) rfl hS (v_load Tryz.isAgg3 rfl (by first | exact cell_sc0 (k := 0) rfl rfl | exact cell_sc0 (k := 1) rfl rfl)) ?_
          refine d_take 2 rfl rfl (by kernel_rfl) (by kernel_rfl) (by kernel_rfl) rfl hS (v_move rfl) ?_
          refine d_take 3 rfl rfl (by kernel_rfl) (by kernel_rfl) (by kernel_rfl) rfl hS (v_nilCheck rfl) ?_
          refine d_take 4 rfl rfl (by kernel_rfl) (by kernel_rfl) (by kernel_rfl) rfl hS (v_fieldAddr rfl Tryz.underlying188 rfl Tryz.sizeOf80 rfl (by first | exact Nat.zero_add _ | rfl)) ?_
          refine d_take 5 rfl rfl (by kernel_rfl) (by kernel_rfl) (by kernel_rfl) rfl hS (v_load Tryz.isAgg80 rfl (by first | exact cell_sc0 (k := 0) rfl rfl | exact cell_sc0 (k := 1) rfl rfl)) ?_
          refine d_one 6 (by kernel_rfl) rfl rfl (d_call1 Tryz.call130 rfl (frLen_spec W0 _ ps fr)) rfl ?_; clear hS
          rintro _ B_ ⟨rfl, hB_⟩
          obtain rfl := hB_.symm
          refine ⟨(sc_own (sc_own sc_end)), fun hS => ?_⟩
          refine d_take 7 rfl rfl (by kernel_rfl) (by kernel_rfl) (by kernel_rfl) rfl hS (v_geq rfl rfl) ?_
          refine d_done (by kernel_rfl) ?_; clear hS
          refine n_then ?_
          refine x_if rfl ?_ ?_
          · intro c12
            refine x_seq (x_region (s_val rfl (v_build Tryz.underlying196 Tryz.zeroValue196 (sized_cons Tryz.sizeOf3 (sized_cons Tryz.sizeOf3 (sized_cons Tryz.sizeOf3 (sized_cons Tryz.sizeOf4 sized_nil)))) fil_nil) ?_))
            refine s_do0 (d_storeAll Tryz.sizeOf196 rfl rfl rfl rfl rfl) ?_
            rintro _ _ rfl
            refine s_val rfl (v_assign rfl) (x_nil (n_then (x_ret (r_then (x_done (.inl rfl) (.cons (r_all Tryz.isAgg196 Tryz.sizeOf196 rfl rfl) (.cons (r_tmp rfl) .nil)) ?_)))))
            refine ⟨_, ⟨?_, rfl⟩, inferInstance⟩
            have he : fndE fr.length pg pa w kind = 7 := by unfold fndE; rw [if_pos ha, if_pos (by omega), if_pos hz, if_neg (by omega)]
            simp [pack, fndV, he]
          · intro c12
            refine x_skip (n_then (x_seq (x_region (s_val rfl (v_move rfl) ?_))))
            refine s_val rfl (v_fieldAddr rfl Tryz.underlying128 rfl Tryz.sizeOf3 rfl (by first | exact Nat.zero_add _ | rfl)) ?_
            refine s_val rfl (v_load Tryz.isAgg3 rfl (cell_own rfl)) ?_
            refine s_val rfl (v_move rfl) ?_
            refine s_val rfl (v_rem rfl rfl (by decide) (tmodN pa 64)) ?_
            refine s_val rfl (v_conv Tryz.underlying47 Tryz.underlying3 rfl (w64 (by omega))) ?_
            refine s_val rfl (v_build Tryz.underlying196 Tryz.zeroValue196 (sized_cons Tryz.sizeOf3 (sized_cons Tryz.sizeOf3 (sized_cons Tryz.sizeOf3 (sized_cons Tryz.sizeOf4 sized_nil)))) (fil_scal rfl Tryz.sizeOf3 rfl rfl (Nat.le_of_ble_eq_true rfl) SetL.eq (fil_scal rfl Tryz.sizeOf3 rfl rfl (Nat.le_of_ble_eq_true rfl) SetL.eq (fil_scal rfl Tryz.sizeOf3 rfl rfl (Nat.le_of_ble_eq_true rfl) SetL.eq fil_nil)))) ?_
            refine s_do0 (d_storeAll Tryz.sizeOf196 rfl rfl rfl rfl rfl) ?_
            rintro _ _ rfl
            refine s_val rfl (v_assign rfl) (x_nil (n_then (x_ret (x_done (.inl rfl) (.cons (r_all Tryz.isAgg196 Tryz.sizeOf196 rfl rfl) (.cons (r_tmp rfl) .nil)) ?_))))
            refine ⟨_, ⟨?_, rfl⟩, inferInstance⟩
            have he : fndE fr.length pg pa w kind = 0 := by unfold fndE; rw [if_pos ha, if_pos (by omega), if_pos hz, if_pos (by omega)]
            simp [pack, fndV, he]
end Go.Proofs.YtncegikenkpcmaaGreat
namespace Go.Proofs.YtncegikenkpcmaaGreat
open Go.RowKit
set_option linter.unusedSimpArgs false
set_option linter.unusedVariables false
set_option maxRecDepth 20000
theorem fnd_ok {n : Nat} {pg : List Pl} {pa : Nat} {w kind : Int} (h : fndE n pg pa w kind = 0) : pa < 768 ∧ (gGot pg ((pa / 64 : Nat) : Int)).1 < n ∧ fndV n pg pa w kind = [.int .i64 (pa / 64 : Nat), .int .i64 (gGot pg ((pa / 64 : Nat) : Int)).1, .int .i64 (pa % 64 : Nat), .bool false] := by
  refine ⟨?_, ?_, by rw [fndV, if_pos h]⟩
  · unfold fndE at h; split at h
    · split at h
      · assumption
      · omega
    · omega
  · unfold fndE at h; split at h
    · split at h
      · split at h
        · split at h
          · assumption
          · omega
        · contradiction
      · omega
    · omega
def vsvF (fr : List Frm) (pg : List Pl) (pa : Nat) (w : Int) (x : Nat) : List Frm := if fndE fr.length pg pa w 2 = 0 then svF fr (gGot pg ((pa / 64 : Nat) : Int)).1 ((pa % 64 : Nat) : Int) w x else fr
def vsvD (fr : List Frm) (pg : List Pl) (pa : Nat) (w : Int) (d : Nat) : Nat := if fndE fr.length pg pa w 2 = 0 then d ||| 2 ^ (pa / 64) else d
theorem shl_page {n : Nat} (h : n < 12) : bShl .u32 1 (n : Int) = ((2 ^ n : Nat) : Int) := by
  have : ∀ n : Nat, n < 12 → bShl .u32 1 (n : Int) = ((2 ^ n : Nat) : Int) := by decide
  exact this n h
theorem page_lt {n : Nat} (h : n < 12) : 2 ^ n < 4096 := by
  have : ∀ n : Nat, n < 12 → 2 ^ n < 4096 := by decide
  exact this n h
theorem viSave_spec (W0 : World) (R : List HP) (pv ps pm d : Nat) (fr : List Frm) (pg : List Pl) (h : Pgs pg) (hF : Frs fr) (hd : d < 4096) (pa : Nat) (hpa : pa < 4294967296) (w : Int) (x : Nat) (hx : x < 4294967296) :
    Spec Tryz.prog W0 33 [.pointer (some ⟨pv, 0, none⟩), .int .u32 pa, .int .i64 w, .int .u32 x] (pt pv (viO ps pm d) :: stoH ps fr :: pt pm (gmO pg) :: R)
      (fun v B => v = .int .i64 (fndE fr.length pg pa w 2) ∧ B = pt pv (viO ps pm (vsvD fr pg pa w d)) :: stoH ps (vsvF fr pg pa w x) :: pt pm (gmO pg) :: R) := by
  by_cases hz : fndE fr.length pg pa w 2 = 0
  · obtain ⟨h1, h2, hv⟩ := fnd_ok hz
    have hp := page_lt (n := pa / 64) (by omega)
    rw [vsvD, if_pos hz, vsvF, if_pos hz]
    refine spec_body Tryz.func33 Tryz.ntmps33 rfl rfl ?_
    refine x_seq (x_region (s_val rfl (v_assign rfl) (x_nil (n_then (x_seq (x_region (s_val rfl (v_move rfl) (s_val rfl (v_move rfl) (s_val rfl (v_move rfl) (s_do rfl (d_call3 Tryz.call104 rfl (viFind_spec W0 _ pv ps pm d fr pg h pa hpa w 2)) ?_))))))))))
    rintro _ B_ ⟨rfl, hB_⟩
    obtain rfl := hB_.symm
    rw [hv, hz]
    refine s_val rfl (v_move rfl) (s_val rfl (v_extract rfl rfl) (s_val rfl (v_extract rfl rfl) (s_do rfl (d_allocA Tryz.zeroValue196) ?_)))
    rintro _ _ ⟨b1, rfl, rfl⟩
    refine s_do0 (d_storeAll Tryz.sizeOf196 rfl rfl rfl rfl rfl) ?_
    rintro _ _ rfl
    refine s_val rfl (v_assign rfl) (x_nil (n_then (x_seq (x_seq (x_region (s_val rfl (v_move rfl) (s_val rfl (v_neq rfl rfl) (x_nil (n_then ?_)))))))))
    refine x_if rfl ?_ ?_
    · intro c2
      exact absurd rfl c2
    · intro c2
      refine x_skip (n_then (x_seq ?_))
      refine x_draw [(pv, 0, _), (b1, 0, _)] 11 mixed rfl (sc_own (sc_own sc_end)) (fun hS => ?_)
      refine d_take 0 rfl rfl (by kernel_rfl) (by kernel_rfl) (by kernel_rfl) rfl hS (v_move rfl) ?_
      refine d_take 1 rfl rfl (by kernel_rfl) (by kernel_rfl) (by kernel_rfl) rfl hS (v_nilCheck rfl) ?_
      refine d_take 2 rfl rfl (by kernel_rfl) (by kernel_rfl) (by kernel_rfl) rfl hS (v_fieldAddr rfl Tryz.underlying188 rfl Tryz.sizeOf80 rfl (by first | exact Nat.zero_add _ | rfl)) ?_
      refine d_take 3 rfl rfl (by kernel_rfl) (by kernel_rfl) (by kernel_rfl) rfl hS (v_load Tryz.isAgg80 rfl (by first | exact cell_sc0 (k := 0) rfl rfl | exact cell_sc0 (k := 1) rfl rfl)) ?_
      refine d_take 4 rfl rfl (by kernel_rfl) (by kernel_rfl) (by kernel_rfl) rfl hS (v_fieldAddr rfl Tryz.underlying196 rfl Tryz.sizeOf3 rfl (by first | exact Nat.zero_add _ | rfl)) ?_
      refine d_take 5 rfl rfl (by kernel_rfl) (by kernel_rfl) (by kernel_rfl) rfl hS (v_load Tryz.isAgg3 rfl (by first | exact cell_sc0 (k := 0) rfl rfl | exact cell_sc0 (k := 1) rfl rfl)) ?_
      refine d_take 6 rfl rfl (by kernel_rfl) (by kernel_rfl) (by kernel_rfl) rfl hS (v_fieldAddr rfl Tryz.underlying196 rfl Tryz.sizeOf3 rfl (by first | exact Nat.zero_add _ | rfl)) ?_
      refine d_take 7 rfl rfl (by kernel_rfl) (by kernel_rfl) (by kernel_rfl) rfl hS (v_load Tryz.isAgg3 rfl (by first | exact cell_sc0 (k := 0) rfl rfl | exact cell_sc0 (k := 1) rfl rfl)) ?_
      refine d_take 8 rfl rfl (by kernel_rfl) (by kernel_rfl) (by kernel_rfl) rfl hS (v_move rfl) ?_
      refine d_take 9 rfl rfl (by kernel_rfl) (by kernel_rfl) (by kernel_rfl) rfl hS (v_move rfl) ?_
      refine d_one 10 (by kernel_rfl) rfl rfl (d_call1 Tryz.call105 rfl (frSave_spec W0 _ ps fr _ _ w x hx hF)) rfl ?_; clear hS
      rintro _ B_ ⟨rfl, hB_⟩
      obtain rfl := hB_.symm
      refine ⟨(sc_own (sc_own sc_end)), fun hS => ?_⟩
      refine d_done (by kernel_rfl) ?_; clear hS
      refine n_then (x_seq ?_)
      refine x_draw [(b1, 0, _)] 11 mixed rfl (sc_own sc_end) (fun hS => ?_)
      refine d_take 0 rfl rfl (by kernel_rfl) (by kernel_rfl) (by kernel_rfl) rfl hS (v_move rfl) ?_
      refine d_take 1 rfl rfl (by kernel_rfl) (by kernel_rfl) (by kernel_rfl) rfl hS (v_nilCheck rfl) ?_
      refine d_take 2 rfl rfl (by kernel_rfl) (by kernel_rfl) (by kernel_rfl) rfl hS (v_fieldAddr rfl Tryz.underlying188 rfl Tryz.sizeOf47 rfl (by first | exact Nat.zero_add _ | rfl)) ?_
      refine d_take 4 rfl rfl (by kernel_rfl) (by kernel_rfl) (by kernel_rfl) rfl hS (v_fieldAddr rfl Tryz.underlying196 rfl Tryz.sizeOf3 rfl (by first | exact Nat.zero_add _ | rfl)) ?_
      refine d_take 5 rfl rfl (by kernel_rfl) (by kernel_rfl) (by kernel_rfl) rfl hS (v_load Tryz.isAgg3 rfl (cell_sc0 (k := 0) rfl rfl)) ?_
      refine d_take 6 rfl rfl (by kernel_rfl) (by kernel_rfl) (by kernel_rfl) rfl hS (v_shl rfl rfl (by omega) (shl_page (by omega))) ?_
      refine d_one 3 (by kernel_rfl) rfl rfl (d_val (v_load Tryz.isAgg47 rfl (cell_own rfl))) rfl ?_; clear hS
      rintro _ _ ⟨rfl, rfl⟩
      refine ⟨(sc_own sc_end), fun hS => ?_⟩
      refine d_take 7 rfl rfl (by kernel_rfl) (by kernel_rfl) (by kernel_rfl) rfl hS (v_or rfl rfl (bOr_u32 (by omega) (by omega))) ?_
      refine d_take 8 rfl rfl (by kernel_rfl) (by kernel_rfl) (by kernel_rfl) rfl hS (v_nilCheck rfl) ?_
      refine d_take 9 rfl rfl (by kernel_rfl) (by kernel_rfl) (by kernel_rfl) rfl hS (v_fieldAddr rfl Tryz.underlying188 rfl Tryz.sizeOf47 rfl (by first | exact Nat.zero_add _ | rfl)) ?_
      refine d_one 10 (by kernel_rfl) rfl rfl (d_store Tryz.sizeOf47 rfl rfl rfl (Nat.le_of_ble_eq_true rfl) SetL.eq) rfl ?_; clear hS
      rintro _ _ rfl
      refine ⟨(sc_own sc_end), fun hS => ?_⟩
      refine d_done (by kernel_rfl) ?_; clear hS
      refine n_then (x_seq (x_region (s_val rfl (v_assign rfl) (x_nil (n_then (x_ret (x_done (.inl rfl) (.cons (r_tmp rfl) .nil) ?_)))))))
      exact ⟨_, ⟨rfl, rfl⟩, inferInstance⟩
  · rw [vsvD, if_neg hz, vsvF, if_neg hz]
    refine spec_body Tryz.func33 Tryz.ntmps33 rfl rfl ?_
    refine x_seq (x_region (s_val rfl (v_assign rfl) (x_nil (n_then (x_seq (x_region (s_val rfl (v_move rfl) (s_val rfl (v_move rfl) (s_val rfl (v_move rfl) (s_do rfl (d_call3 Tryz.call104 rfl (viFind_spec W0 _ pv ps pm d fr pg h pa hpa w 2)) ?_))))))))))
    rintro _ B_ ⟨rfl, hB_⟩
    obtain rfl := hB_.symm
    rw [fndV, if_neg hz]
    refine s_val rfl (v_move rfl) (s_val rfl (v_extract rfl rfl) (s_val rfl (v_extract rfl rfl) (s_do rfl (d_allocA Tryz.zeroValue196) ?_)))
    rintro _ _ ⟨b1, rfl, rfl⟩
    refine s_do0 (d_storeAll Tryz.sizeOf196 rfl rfl rfl rfl rfl) ?_
    rintro _ _ rfl
    refine s_val rfl (v_assign rfl) (x_nil (n_then (x_seq (x_seq (x_region (s_val rfl (v_move rfl) (s_val rfl (v_neq rfl rfl) (x_nil (n_then ?_)))))))))
    refine x_if rfl ?_ ?_
    · intro c2
      refine x_seq (x_region (s_val rfl (v_move rfl) (s_val rfl (v_assign rfl) (x_nil (n_then (x_ret (r_then (x_done (.inl rfl) (.cons (r_tmp rfl) .nil) ?_))))))))
      exact ⟨_, ⟨rfl, rfl⟩, inferInstance⟩
    · intro c2
      exact absurd hz c2
end Go.Proofs.YtncegikenkpcmaaGreat
namespace Go.Proofs.YtncegikenkpcmaaGreat
open Go.RowKit
set_option linter.unusedSimpArgs false
set_option linter.unusedVariables false
set_option maxRecDepth 20000
theorem viNew_spec (W0 : World) (R : List HP) (ps pm : Nat) (fr : List Frm) (pg : List Pl) (h : Pgs pg) (h0 : 0 < fr.length) :
    Spec Tryz.prog W0 66 [.pointer (some ⟨ps, 0, none⟩), .pointer (some ⟨pm, 0, none⟩)] (stoH ps fr :: pt pm (gmO pg) :: R)
      (fun v B => ∃ b, v = .tuple #[.pointer (some ⟨b, 0, none⟩), .int .i64 0] ∧ B = pt b (viO ps pm 0) :: stoH ps fr :: pt pm (gmO pg) :: R) := by
  refine spec_body Tryz.func66 Tryz.ntmps66 rfl rfl ?_
  refine x_seq (x_region (s_val rfl (v_assign rfl) (s_val rfl (v_assign rfl) (x_nil (n_then (x_seq (x_seq (x_region (s_val rfl (v_move rfl) (s_do rfl (d_call1 Tryz.call130 rfl (frLen_spec W0 _ ps fr)) ?_))))))))))
  rintro _ B_ ⟨rfl, hB_⟩
  obtain rfl := hB_.symm
  refine s_val rfl (v_eql rfl rfl) (s_val rfl (v_move rfl) ?_)
  refine s_or rfl rfl rfl ?_ ?_
  · intro g1_4
    omega
  · intro g1_4
    refine s_val rfl (v_move rfl) (s_yes rfl rfl (s_do rfl (d_call1 Tryz.call131 rfl (gmDrop_spec W0 _ pm pg h)) ?_))
    rintro _ B_ ⟨rfl, hB_⟩
    obtain rfl := hB_.symm
    refine s_yes rfl rfl (s_val rfl (v_eql rfl rfl) (s_val rfl (v_pick_f rfl rfl) (x_nil (n_then ?_))))
    refine x_if rfl ?_ ?_
    · intro c1
      exact absurd c1 (by decide)
    · intro c1
      refine x_skip (n_then (x_seq (x_region (s_val rfl (v_move rfl) (s_val rfl (v_move rfl) (s_val rfl (v_build Tryz.underlying188 Tryz.zeroValue188 (sized_cons Tryz.sizeOf80 (sized_cons Tryz.sizeOf123 (sized_cons Tryz.sizeOf47 sized_nil))) (fil_scal rfl Tryz.sizeOf80 rfl rfl (Nat.le_of_ble_eq_true rfl) SetL.eq (fil_scal rfl Tryz.sizeOf123 rfl rfl (Nat.le_of_ble_eq_true rfl) SetL.eq fil_nil))) ?_))))))
      refine s_do rfl (d_boxA rfl) ?_
      rintro _ _ ⟨b1, rfl, rfl⟩
      refine s_val rfl (v_assign rfl) (s_val rfl (v_assign rfl) (x_nil (n_then (x_ret (x_done (.inl rfl) (.cons (r_tmp rfl) (.cons (r_tmp rfl) .nil)) ?_)))))
      exact ⟨_, ⟨b1, rfl, rfl⟩, inferInstance⟩
theorem viStore_spec (W0 : World) (R : List HP) (pv ps pm d : Nat) : Spec Tryz.prog W0 31 [.pointer (some ⟨pv, 0, none⟩)] (pt pv (viO ps pm d) :: R) (fun v B => v = .pointer (some ⟨ps, 0, none⟩) ∧ B = pt pv (viO ps pm d) :: R) := by
  refine spec_body Tryz.func31 Tryz.ntmps31 rfl rfl ?_
  refine x_seq (x_region (s_val rfl (v_assign rfl) (x_nil (n_then (x_seq (x_seq (x_region (s_val rfl (v_move rfl) (s_do rfl (d_call1 Tryz.call102 rfl (viNone_spec W0 _ pv ps pm d)) ?_)))))))))
  rintro _ B_ ⟨rfl, hB_⟩
  obtain rfl := hB_.symm
  refine x_nil (n_then ?_)
  refine x_if rfl ?_ ?_
  · intro c1
    exact absurd c1 (by decide)
  · intro c1
    refine x_skip (n_then (x_seq (x_region (s_val rfl (v_move rfl) (s_val rfl (v_nilCheck rfl) ?_)))))
    refine s_val rfl (v_fieldAddr rfl Tryz.underlying188 rfl Tryz.sizeOf80 rfl (by first | exact Nat.zero_add _ | rfl)) ?_
    refine s_val rfl (v_load Tryz.isAgg80 rfl (cell_own rfl)) ?_
    refine s_val rfl (v_assign rfl) (x_nil (n_then (x_ret (x_done (.inl rfl) (.cons (r_tmp rfl) .nil) ?_))))
    exact ⟨_, ⟨rfl, rfl⟩, inferInstance⟩
def frmB (len : Nat) (pg : List Pl) (n : Int) : Bool := thereB pg n && decide (n < 8) && decide ((gGot pg n).1 < len)
theorem viFrame_spec (W0 : World) (R : List HP) (pv ps pm d : Nat) (fr : List Frm) (pg : List Pl) (h : Pgs pg) (n : Int) :
    Spec Tryz.prog W0 196 [.pointer (some ⟨pv, 0, none⟩), .int .i64 n] (pt pv (viO ps pm d) :: stoH ps fr :: pt pm (gmO pg) :: R)
      (fun v B => v = .tuple #[.int .i64 (gGot pg n).1, .bool (frmB fr.length pg n)] ∧ B = pt pv (viO ps pm d) :: stoH ps fr :: pt pm (gmO pg) :: R) := by
  refine spec_body Tryz.func196 Tryz.ntmps196 rfl rfl ?_
  refine x_seq (x_region (s_val rfl (v_assign rfl) (s_val rfl (v_assign rfl) (x_nil (n_then (x_seq (x_region (s_val rfl (v_move rfl) (s_val rfl (v_nilCheck rfl) ?_)))))))))
  refine s_val rfl (v_fieldAddr rfl Tryz.underlying188 rfl Tryz.sizeOf123 rfl (by first | exact Nat.zero_add _ | rfl)) ?_
  refine s_val rfl (v_load Tryz.isAgg123 rfl (cell_own rfl)) ?_
  refine s_val rfl (v_move rfl) (s_do rfl (d_call1 Tryz.call168 rfl (gmGet_spec W0 _ pm pg h n)) ?_)
  rintro _ B_ ⟨rfl, hB_⟩
  obtain rfl := hB_.symm
  refine s_val rfl (v_move rfl) (s_val rfl (v_extract rfl rfl) (s_val rfl (v_extract rfl rfl) (s_do rfl (d_allocA Tryz.zeroValue128) ?_)))
  rintro _ _ ⟨b1, rfl, rfl⟩
  refine s_do0 (d_storeAll Tryz.sizeOf128 rfl rfl rfl rfl rfl) ?_
  rintro _ _ rfl
  refine s_val rfl (v_assign rfl) (x_nil (n_then (x_seq ?_)))
  refine x_draw [(pv, 0, _), (b1, 0, _)] 19 mixed rfl (sc_own (sc_own sc_end)) (fun hS => ?_)
  refine d_take 0 rfl rfl (by kernel_rfl) (by kernel_rfl) (by kernel_rfl) rfl hS (v_fieldAddr rfl Tryz.underlying128 rfl Tryz.sizeOf3 rfl (by first | exact Nat.zero_add _ | rfl)) ?_
  refine d_take 1 rfl rfl (by kernel_rfl) (by kernel_rfl) (by kernel_rfl) rfl hS (v_load Tryz.isAgg3 rfl (by first | exact cell_sc0 (k := 0) rfl rfl | exact cell_sc0 (k := 1) rfl rfl)) ?_
  refine d_take 2 rfl rfl (by kernel_rfl) (by kernel_rfl) (by kernel_rfl) rfl hS (v_move rfl) ?_
  refine d_take 3 rfl rfl (by kernel_rfl) (by kernel_rfl) (by kernel_rfl) rfl hS (v_move rfl) ?_
  refine x_split (t := 20) rfl ?_ ?_
  · intro g2_4
    refine d_take 4 rfl rfl (by kernel_rfl) (by kernel_rfl) (by kernel_rfl) rfl hS (v_move rfl) ?_
    refine d_take 5 rfl rfl (by kernel_rfl) (by kernel_rfl) (by kernel_rfl) rfl hS (v_lss rfl rfl) ?_
    refine d_take 6 rfl rfl (by kernel_rfl) (by kernel_rfl) (by kernel_rfl) rfl hS (v_pick_t rfl rfl) ?_
    refine d_take 7 rfl rfl (by kernel_rfl) (by kernel_rfl) (by kernel_rfl) rfl hS (v_move rfl) ?_
    refine x_split (t := 24) rfl ?_ ?_
    · intro g2_8
      refine d_take 8 rfl rfl (by kernel_rfl) (by kernel_rfl) (by kernel_rfl) rfl hS (v_fieldAddr rfl Tryz.underlying128 rfl Tryz.sizeOf3 rfl (by first | exact Nat.zero_add _ | rfl)) ?_
      refine d_take 9 rfl rfl (by kernel_rfl) (by kernel_rfl) (by kernel_rfl) rfl hS (v_load Tryz.isAgg3 rfl (by first | exact cell_sc0 (k := 0) rfl rfl | exact cell_sc0 (k := 1) rfl rfl)) ?_
      refine d_take 10 rfl rfl (by kernel_rfl) (by kernel_rfl) (by kernel_rfl) rfl hS (v_move rfl) ?_
      refine d_take 11 rfl rfl (by kernel_rfl) (by kernel_rfl) (by kernel_rfl) rfl hS (v_nilCheck rfl) ?_
      refine d_take 12 rfl rfl (by kernel_rfl) (by kernel_rfl) (by kernel_rfl) rfl hS (v_fieldAddr rfl Tryz.underlying188 rfl Tryz.sizeOf80 rfl (by first | exact Nat.zero_add _ | rfl)) ?_
      refine d_take 13 rfl rfl (by kernel_rfl) (by kernel_rfl) (by kernel_rfl) rfl hS (v_load Tryz.isAgg80 rfl (by first | exact cell_sc0 (k := 0) rfl rfl | exact cell_sc0 (k := 1) rfl rfl)) ?_
      refine d_one 14 (by kernel_rfl) rfl rfl (d_call1 Tryz.call130 rfl (frLen_spec W0 _ ps fr)) rfl ?_; clear hS
      rintro _ B_ ⟨rfl, hB_⟩
      obtain rfl := hB_.symm
      refine ⟨(sc_own (sc_own sc_end)), fun hS => ?_⟩
      refine d_take 15 rfl rfl (by kernel_rfl) (by kernel_rfl) (by kernel_rfl) rfl hS (v_lss rfl rfl) ?_
      refine d_take 16 rfl rfl (by kernel_rfl) (by kernel_rfl) (by kernel_rfl) rfl hS (v_pick_t rfl rfl) ?_
      refine d_take 17 rfl rfl (by kernel_rfl) (by kernel_rfl) (by kernel_rfl) rfl hS (v_assign rfl) ?_
      refine d_take 18 rfl rfl (by kernel_rfl) (by kernel_rfl) (by kernel_rfl) rfl hS (v_assign rfl) ?_
      refine d_done (by kernel_rfl) ?_; clear hS
      refine n_then (x_ret (x_done (.inl rfl) (.cons (r_tmp rfl) (.cons (r_tmp rfl) .nil)) ?_))
      refine ⟨_, ⟨?_, rfl⟩, inferInstance⟩
      simp_all [pack, frmB]; try omega
    · intro g2_8
      refine d_skip 8 rfl rfl (by kernel_rfl) (by kernel_rfl) (by kernel_rfl) rfl hS ?_
      refine d_skip 9 rfl rfl (by kernel_rfl) (by kernel_rfl) (by kernel_rfl) rfl hS ?_
      refine d_skip 10 rfl rfl (by kernel_rfl) (by kernel_rfl) (by kernel_rfl) rfl hS ?_
      refine d_skip 11 rfl rfl (by kernel_rfl) (by kernel_rfl) (by kernel_rfl) rfl hS ?_
      refine d_skip 12 rfl rfl (by kernel_rfl) (by kernel_rfl) (by kernel_rfl) rfl hS ?_
      refine d_skip 13 rfl rfl (by kernel_rfl) (by kernel_rfl) (by kernel_rfl) rfl hS ?_
      refine d_skip 14 rfl rfl (by kernel_rfl) (by kernel_rfl) (by kernel_rfl) rfl hS ?_
      refine d_skip 15 rfl rfl (by kernel_rfl) (by kernel_rfl) (by kernel_rfl) rfl hS ?_
      refine d_take 16 rfl rfl (by kernel_rfl) (by kernel_rfl) (by kernel_rfl) rfl hS (v_pick_f rfl rfl) ?_
      refine d_take 17 rfl rfl (by kernel_rfl) (by kernel_rfl) (by kernel_rfl) rfl hS (v_assign rfl) ?_
      refine d_take 18 rfl rfl (by kernel_rfl) (by kernel_rfl) (by kernel_rfl) rfl hS (v_assign rfl) ?_
      refine d_done (by kernel_rfl) ?_; clear hS
      refine n_then (x_ret (x_done (.inl rfl) (.cons (r_tmp rfl) (.cons (r_tmp rfl) .nil)) ?_))
      refine ⟨_, ⟨?_, rfl⟩, inferInstance⟩
      simp_all [pack, frmB]; try omega
  · intro g2_4
    refine d_skip 4 rfl rfl (by kernel_rfl) (by kernel_rfl) (by kernel_rfl) rfl hS ?_
    refine d_skip 5 rfl rfl (by kernel_rfl) (by kernel_rfl) (by kernel_rfl) rfl hS ?_
    refine d_take 6 rfl rfl (by kernel_rfl) (by kernel_rfl) (by kernel_rfl) rfl hS (v_pick_f rfl rfl) ?_
    refine d_take 7 rfl rfl (by kernel_rfl) (by kernel_rfl) (by kernel_rfl) rfl hS (v_move rfl) ?_
    refine d_skip 8 rfl rfl (by kernel_rfl) (by kernel_rfl) (by kernel_rfl) rfl hS ?_
    refine d_skip 9 rfl rfl (by kernel_rfl) (by kernel_rfl) (by kernel_rfl) rfl hS ?_
    refine d_skip 10 rfl rfl (by kernel_rfl) (by kernel_rfl) (by kernel_rfl) rfl hS ?_
    refine d_skip 11 rfl rfl (by kernel_rfl) (by kernel_rfl) (by kernel_rfl) rfl hS ?_
    refine d_skip 12 rfl rfl (by kernel_rfl) (by kernel_rfl) (by kernel_rfl) rfl hS ?_
    refine d_skip 13 rfl rfl (by kernel_rfl) (by kernel_rfl) (by kernel_rfl) rfl hS ?_
    refine d_skip 14 rfl rfl (by kernel_rfl) (by kernel_rfl) (by kernel_rfl) rfl hS ?_
    refine d_skip 15 rfl rfl (by kernel_rfl) (by kernel_rfl) (by kernel_rfl) rfl hS ?_
    refine d_take 16 rfl rfl (by kernel_rfl) (by kernel_rfl) (by kernel_rfl) rfl hS (v_pick_f rfl rfl) ?_
    refine d_take 17 rfl rfl (by kernel_rfl) (by kernel_rfl) (by kernel_rfl) rfl hS (v_assign rfl) ?_
    refine d_take 18 rfl rfl (by kernel_rfl) (by kernel_rfl) (by kernel_rfl) rfl hS (v_assign rfl) ?_
    refine d_done (by kernel_rfl) ?_; clear hS
    refine n_then (x_ret (x_done (.inl rfl) (.cons (r_tmp rfl) (.cons (r_tmp rfl) .nil)) ?_))
    refine ⟨_, ⟨?_, rfl⟩, inferInstance⟩
    simp_all [pack, frmB]; try omega
end Go.Proofs.YtncegikenkpcmaaGreat
namespace Go.Proofs.YtncegikenkpcmaaGreat
open Go.RowKit
set_option linter.unusedSimpArgs false
set_option linter.unusedVariables false
set_option maxRecDepth 20000
def pcN (pa n at_ : Nat) : Nat := min (n - at_) (64 - (pa + at_) % 64)
theorem pcN_pos {pa n at_ : Nat} (h : at_ < n) : 0 < pcN pa n at_ ∧ at_ + pcN pa n at_ ≤ n := by unfold pcN; omega
def pcV (pa n at_ : Nat) : List Value := [.int .i64 ((pa + at_) / 64 : Nat), .int .i64 ((pa + at_) % 64 : Nat), .int .i64 (at_ : Nat), .int .i64 (pcN pa n at_ : Nat)]
theorem pieces1_spec (W0 : World) (bn bp pa n L : Nat) (hpa : pa ≤ 100000) (hn : n ≤ 100000) (C : Nat → List HP) (I : Nat → Prop) (h0 : I 0) (Stop : List HP → Prop)
    (hr : ∀ at_ R, at_ < n → I at_ → Rounds Tryz.prog W0 L [.agg (pcV pa n at_).toArray] (C at_ ++ R) (fun v B => ∃ b B', v = .bool b ∧ B = B' ++ R ∧ ((b = true ∧ I (at_ + pcN pa n at_) ∧ B' = C (at_ + pcN pa n at_)) ∨ (b = false ∧ Stop B')))) :
    Spec Tryz.prog W0 236 [.func (.yield L) #[] #[], .pointer (some ⟨bn, 0, none⟩), .pointer (some ⟨bp, 0, none⟩)] (pt bn (cob [.int .i64 n] 3) :: pt bp (cob [.int .i64 pa] 3) :: C 0)
      (fun v B => v = .tuple #[] ∧ ((I n ∧ B = C n) ∨ Stop B)) := by
  refine spec_body Tryz.func236 Tryz.ntmps236 rfl rfl ?_
  refine x_seq (x_region (s_val rfl (v_assign rfl) (x_nil (n_then (x_block ?_)))))
  refine x_loop (fun i : Nat => i ≤ n ∧ I i) (fun i => [(0, .func (.yield L) #[] #[]), (1, .pointer (some ⟨bn, 0, none⟩)), (2, .pointer (some ⟨bp, 0, none⟩)), (4, .int .i64 i)]) (fun i => pt bn (cob [.int .i64 n] 3) :: pt bp (cob [.int .i64 pa] 3) :: C i) (fun i => n - i) 0 ?_ ?_ ?_ ?_
  · exact ⟨Nat.zero_le _, h0⟩
  · repeat (first | exact sub_nil | refine sub_cons rfl ?_)
  · exact inferInstance
  · intro i ⟨hi, hI⟩
    refine x_seq (x_seq (x_region (s_val rfl (v_move rfl) (s_val rfl (v_load Tryz.isAgg3 rfl (cell_own rfl)) ?_))))
    refine s_val rfl (v_lss rfl rfl) (x_nil (n_then ?_))
    refine x_if rfl ?_ ?_
    · intro c1
      refine x_skip (n_then (x_block (x_seq ?_)))
      have hpos := pcN_pos (pa := pa) (n := n) (at_ := i) (by omega)
      refine x_region (s_val rfl (v_load Tryz.isAgg3 rfl (cell_own rfl)) ?_)
      refine s_val rfl (v_move rfl) ?_
      refine s_val rfl (v_add rfl rfl (by rw [w64 (by omega)]; omega : IntKind.wrap .i64 ((pa : Int) + (i : Int)) = ((pa + i : Nat) : Int))) ?_
      refine s_val rfl (v_quo rfl rfl (by decide) ((congrArg (IntKind.wrap .i64) (tdivN (pa + i) 64)).trans (w64 (by omega)))) ?_
      refine s_val rfl (v_load Tryz.isAgg3 rfl (cell_own rfl)) ?_
      refine s_val rfl (v_move rfl) ?_
      refine s_val rfl (v_add rfl rfl (by rw [w64 (by omega)]; omega : IntKind.wrap .i64 ((pa : Int) + (i : Int)) = ((pa + i : Nat) : Int))) ?_
      refine s_val rfl (v_rem rfl rfl (by decide) (tmodN (pa + i) 64)) ?_
      refine s_val rfl (v_move rfl) (s_val rfl (v_build Tryz.underlying286 Tryz.zeroValue286 (sized_cons Tryz.sizeOf3 (sized_cons Tryz.sizeOf3 (sized_cons Tryz.sizeOf3 (sized_cons Tryz.sizeOf3 sized_nil)))) (fil_scal rfl Tryz.sizeOf3 rfl rfl (Nat.le_of_ble_eq_true rfl) SetL.eq (fil_scal rfl Tryz.sizeOf3 rfl rfl (Nat.le_of_ble_eq_true rfl) SetL.eq (fil_scal rfl Tryz.sizeOf3 rfl rfl (Nat.le_of_ble_eq_true rfl) SetL.eq fil_nil)))) ?_)
      refine s_do rfl (d_allocA Tryz.zeroValue286) ?_
      rintro _ _ ⟨b1, rfl, rfl⟩
      refine s_do0 (d_storeAll Tryz.sizeOf286 rfl rfl rfl rfl rfl) ?_
      rintro _ _ rfl
      refine x_nil (n_then (x_seq (x_region (s_val rfl (v_load Tryz.isAgg3 rfl (cell_own rfl)) ?_))))
      refine s_val rfl (v_move rfl) ?_
      refine s_val rfl (v_sub rfl rfl (by rw [w64 (by omega)]; omega : IntKind.wrap .i64 ((n : Int) - (i : Int)) = ((n - i : Nat) : Int))) ?_
      refine s_val rfl (v_fieldAddr rfl Tryz.underlying286 rfl Tryz.sizeOf3 rfl (by first | exact Nat.zero_add _ | rfl)) ?_
      refine s_val rfl (v_load Tryz.isAgg3 rfl (cell_own rfl)) ?_
      refine s_val rfl (v_sub rfl rfl (by rw [w64 (by omega)]; omega : IntKind.wrap .i64 (64 - (((pa + i) % 64 : Nat) : Int)) = ((64 - (pa + i) % 64 : Nat) : Int))) ?_
      refine s_val rfl (v_min rfl rfl (by unfold pcN; split <;> omega : (if ((64 - (pa + i) % 64 : Nat) : Int) < ((n - i : Nat) : Int) then ((64 - (pa + i) % 64 : Nat) : Int) else ((n - i : Nat) : Int)) = ((pcN pa n i : Nat) : Int))) ?_
      refine s_val rfl (v_fieldAddr rfl Tryz.underlying286 rfl Tryz.sizeOf3 rfl (by first | exact Nat.zero_add _ | rfl)) ?_
      refine s_do0 (d_store Tryz.sizeOf3 rfl rfl rfl (Nat.le_of_ble_eq_true rfl) SetL.eq) ?_
      rintro _ _ rfl
      refine x_nil (n_then (x_seq (x_seq (x_region (s_val rfl (v_move rfl) (s_val rfl (v_loadAll Tryz.isAgg286 Tryz.sizeOf286 rfl rfl) ?_))))))
      refine s_yield rfl rfl rfl (rounds_perm (List.perm_append_comm (l₁ := [_, _, _])) (hr i [_, _, _] (by omega) hI)) ?_
      rintro _ B_ ⟨b, B', rfl, hB_, hb⟩
      obtain rfl := hB_.symm
      refine run_perm List.perm_append_comm ?_
      simp only [List.cons_append, List.nil_append]
      refine s_val rfl (v_not rfl) (x_nil (n_then ?_))
      refine x_if rfl ?_ ?_
      · intro c4
        have hs : Stop B' := by
          rcases hb with h | h
          · exact absurd c4 (by rw [h.1]; decide)
          · exact h.2
        refine x_ret (r_then (r_block (r_then (r_block (x_done (.inl rfl) .nil ?_)))))
        exact ⟨_, ⟨rfl, .inr hs⟩, inferInstance⟩
      · intro c4
        have hs : I (i + pcN pa n i) ∧ B' = C (i + pcN pa n i) := by
          rcases hb with h | h
          · exact h.2
          · exact absurd (by rw [h.1]; decide) c4
        obtain ⟨hI', rfl⟩ := hs
        refine x_skip (n_then (x_region (s_val rfl (v_move rfl) ?_)))
        refine s_val rfl (v_fieldAddr rfl Tryz.underlying286 rfl Tryz.sizeOf3 rfl (by first | exact Nat.zero_add _ | rfl)) ?_
        refine s_val rfl (v_load Tryz.isAgg3 rfl (cell_own rfl)) ?_
        refine s_val rfl (v_add rfl rfl (by rw [w64 (by omega)]; omega : IntKind.wrap .i64 ((i : Int) + ((pcN pa n i : Nat) : Int)) = ((i + pcN pa n i : Nat) : Int))) ?_
        refine s_val rfl (v_assign rfl) (x_nil (n_block (n_then ?_)))
        refine inv_intro (i + pcN pa n i) ?_ ?_ ?_ ?_
        · exact ⟨by omega, hI'⟩
        · omega
        · repeat (first | exact sub_nil | refine sub_cons rfl ?_)
        · exact inferInstance
    · intro c1
      refine x_exit (e_then (e_then (e_block (x_done (.inr rfl) .nil ?_))))
      have : i = n := by omega
      subst this
      exact ⟨_, ⟨rfl, .inl ⟨hI, rfl⟩⟩, inferInstance⟩
theorem pieces_spec (W0 : World) (R : List HP) (pa n : Nat) :
    Spec Tryz.prog W0 195 [.int .i64 pa, .int .i64 n] R (fun v B => ∃ bn bp, v = .func (.func 236) #[] #[.pointer (some ⟨bn, 0, none⟩), .pointer (some ⟨bp, 0, none⟩)] ∧ B = pt bn (cob [.int .i64 n] 3) :: pt bp (cob [.int .i64 pa] 3) :: R) := by
  refine spec_body Tryz.func195 Tryz.ntmps195 rfl rfl ?_
  refine x_seq (x_region (s_do rfl (d_box rfl rfl) ?_))
  rintro _ _ ⟨b1, rfl, rfl⟩
  refine s_do rfl (d_box rfl rfl) ?_
  rintro _ _ ⟨b2, rfl, rfl⟩
  refine s_val rfl (v_assign rfl) (x_nil (n_then (x_seq (x_region (s_val rfl (v_mkFunc rfl rfl) ?_)))))
  refine s_val rfl (v_assign rfl) (x_nil (n_then (x_ret (x_done (.inl rfl) (.cons (r_tmp rfl) .nil) ?_))))
  exact ⟨_, ⟨b2, b1, rfl, rfl⟩, inferInstance⟩
theorem pieces_range {W0 : World} {A : List HP} {e : Env} {n' L D bn bp : Nat} {ps : Array Tmp} {asg body : Code} {Go Stop : List HP → Prop} (pa n : Nat) (C : Nat → List HP) (I : Nat → Prop) (hpa : pa ≤ 100000) (hn : n ≤ 100000)
    (hp : A.Perm (pt bn (cob [.int .i64 n] 3) :: pt bp (cob [.int .i64 pa] 3) :: C 0)) (h0 : I 0) (hgo : I n → Go (C n))
    (hr : ∀ at_ R, at_ < n → I at_ → Rounds Tryz.prog W0 L [.agg (pcV pa n at_).toArray] (recH L ⟨e, n', ps, asg, body, .ready, none, D⟩ :: pt D (.deferred (some [])) :: (C at_ ++ R))
      (fun v B => (v = .bool true ∧ I (at_ + pcN pa n at_) ∧ B = recH L ⟨e, n', ps, asg, body, .ready, none, D⟩ :: pt D (.deferred (some [])) :: (C (at_ + pcN pa n at_) ++ R)) ∨
        (v = .bool false ∧ ∃ B', Stop B' ∧ B = recH L ⟨e, n', ps, asg, body, .done, some .ret, D⟩ :: pt D (.deferred (some [])) :: (B' ++ R)))) :
    Spec Tryz.prog W0 236 (.func (.yield L) #[] #[] :: [.pointer (some ⟨bn, 0, none⟩), .pointer (some ⟨bp, 0, none⟩)]) (recH L ⟨e, n', ps, asg, body, .ready, none, D⟩ :: pt D (.deferred (some [])) :: A)
      (fun _ B => (∃ C, B = recH L ⟨e, n', ps, asg, body, .ready, none, D⟩ :: pt D (.deferred (some [])) :: C ∧ Go C) ∨ (∃ C, B = recH L ⟨e, n', ps, asg, body, .done, some .ret, D⟩ :: pt D (.deferred (some [])) :: C ∧ Stop C)) := by
  have hperm : (recH L ⟨e, n', ps, asg, body, .ready, none, D⟩ :: pt D (.deferred (some [])) :: A).Perm (pt bn (cob [.int .i64 n] 3) :: pt bp (cob [.int .i64 pa] 3) :: (recH L ⟨e, n', ps, asg, body, .ready, none, D⟩ :: pt D (.deferred (some [])) :: C 0)) := by
    refine ((hp.cons _).cons _).trans ?_
    exact (((List.Perm.swap _ _ _).trans ((List.Perm.swap _ _ _).cons _)).cons _).trans ((List.Perm.swap _ _ _).trans ((List.Perm.swap _ _ _).cons _)) |>.trans (List.Perm.refl _)
  refine spec_perm hperm (spec_post (pieces1_spec W0 bn bp pa n L hpa hn (fun i => recH L ⟨e, n', ps, asg, body, .ready, none, D⟩ :: pt D (.deferred (some [])) :: C i) I h0
    (fun B => ∃ B', Stop B' ∧ B = recH L ⟨e, n', ps, asg, body, .done, some .ret, D⟩ :: pt D (.deferred (some [])) :: B') fun at_ R hat hI w hO => ?_) ?_)
  · obtain ⟨f, tmps, as_, bd, hy, hR⟩ := hr at_ R hat hI w hO
    refine ⟨f, tmps, as_, bd, hy, RoundIn.mono hR ?_⟩
    rintro _ w' ⟨v, B, rfl, hB, hO'⟩
    rcases hB with ⟨rfl, hI', rfl⟩ | ⟨rfl, B', hS, rfl⟩
    · exact ⟨_, _, rfl, ⟨true, _, rfl, rfl, .inl ⟨rfl, hI', rfl⟩⟩, hO'⟩
    · exact ⟨_, _, rfl, ⟨false, recH L ⟨e, n', ps, asg, body, .done, some .ret, D⟩ :: pt D (.deferred (some [])) :: B', rfl, rfl, .inr ⟨rfl, B', hS, rfl⟩⟩, hO'⟩
  · rintro v B ⟨_, ⟨hI, rfl⟩ | ⟨B', hS, rfl⟩⟩
    · exact ⟨_, .inl ⟨_, rfl, hgo hI⟩, ent_refl⟩
    · exact ⟨_, .inr ⟨_, rfl, hS⟩, ent_refl⟩
end Go.Proofs.YtncegikenkpcmaaGreat
namespace Go.Proofs.YtncegikenkpcmaaGreat
open Go.RowKit
set_option linter.unusedSimpArgs false
set_option linter.unusedVariables false
set_option maxRecDepth 20000
def pgI (a : Nat) : Int := ((a / 64 : Nat) : Int)
def ownA (len : Nat) (pg : List Pl) (pa n : Nat) : Prop := ∀ i, i < n → frmB len pg (pgI (pa + i)) = true
instance {len : Nat} {pg : List Pl} {pa n : Nat} : Decidable (ownA len pg pa n) := by unfold ownA; exact Nat.decidableBallLT n _
def ownB (len : Nat) (pg : List Pl) (pa : Nat) (n : Int) : Bool := decide (0 ≤ n ∧ pa ≤ 512 ∧ n ≤ 512 - (pa : Int)) && decide (ownA len pg pa n.toNat)
theorem ownB_iff {len : Nat} {pg : List Pl} {pa : Nat} {n : Int} : ownB len pg pa n = true ↔ (0 ≤ n ∧ pa ≤ 512 ∧ n ≤ 512 - (pa : Int)) ∧ ownA len pg pa n.toNat := by simp [ownB]
theorem ownB_nat {len : Nat} {pg : List Pl} {pa n : Nat} : ownB len pg pa n = true ↔ pa + n ≤ 512 ∧ ownA len pg pa n := by
  rw [ownB_iff]; simp only [Int.toNat_natCast]
  constructor
  · rintro ⟨h1, h2⟩; exact ⟨by omega, h2⟩
  · rintro ⟨h1, h2⟩; exact ⟨by omega, h2⟩
theorem pc_page {pa n at_ i : Nat} (h1 : at_ ≤ i) (h2 : i < at_ + pcN pa n at_) : (pa + i) / 64 = (pa + at_) / 64 := by unfold pcN at h2; omega
theorem pc_off {pa n at_ k : Nat} (h2 : k < pcN pa n at_) : (pa + (at_ + k)) / 64 = (pa + at_) / 64 ∧ (pa + (at_ + k)) % 64 = (pa + at_) % 64 + k := by unfold pcN at h2; omega
theorem viOwn_spec (W0 : World) (R : List HP) (pv ps pm d : Nat) (fr : List Frm) (pg : List Pl) (h : Pgs pg) (pa : Nat) (hpa : pa < 4294967296) (n : Int) :
    Spec Tryz.prog W0 132 [.pointer (some ⟨pv, 0, none⟩), .int .u32 pa, .int .i64 n] (pt pv (viO ps pm d) :: stoH ps fr :: pt pm (gmO pg) :: R)
      (fun v B => v = .bool (ownB fr.length pg pa n) ∧ B = pt pv (viO ps pm d) :: stoH ps fr :: pt pm (gmO pg) :: R) := by
  refine spec_body Tryz.func132 Tryz.ntmps132 rfl rfl ?_
  refine x_seq (x_region (s_do rfl (d_box rfl rfl) ?_))
  rintro _ _ ⟨b1, rfl, rfl⟩
  refine s_do rfl (d_alloc Tryz.zeroValue4 rfl) ?_
  rintro _ _ ⟨b2, rfl, rfl⟩
  refine x_nil (n_then (x_seq (x_seq (x_region (s_val rfl (v_load Tryz.isAgg51 rfl (cell_own rfl)) ?_)))))
  refine s_do rfl (d_call1 Tryz.call102 rfl (viNone_spec W0 _ pv ps pm d)) ?_
  rintro _ B_ ⟨rfl, hB_⟩
  obtain rfl := hB_.symm
  refine s_val rfl (v_move rfl) ?_
  refine s_or rfl rfl rfl ?_ ?_
  · intro g1_3
    exact absurd g1_3 (by decide)
  · intro g1_3
    refine s_val rfl (v_move rfl) (s_yes rfl rfl (s_val rfl (v_lss rfl rfl) (s_val rfl (v_pick_f rfl rfl) (s_val rfl (v_move rfl) ?_))))
    refine s_or rfl rfl rfl ?_ ?_
    · intro g1_7
      refine s_no rfl rfl rfl rfl (s_val rfl (v_pick_t rfl rfl) (s_val rfl (v_move rfl) (s_no rfl rfl rfl rfl (s_no rfl rfl rfl rfl (s_no rfl rfl rfl rfl (s_no rfl rfl rfl rfl (s_no rfl rfl rfl rfl (s_val rfl (v_pick_t rfl rfl) (x_nil (n_then (x_ift rfl (x_seq (x_region (s_do0 (d_store Tryz.sizeOf4 rfl rfl rfl (Nat.le_of_ble_eq_true rfl) SetL.eq) ?_))))))))))))))
      rintro _ _ rfl
      refine x_nil (n_then (x_ret (r_then (x_done (.inl rfl) (.cons (r_cell Tryz.isAgg4 rfl (cell_own rfl)) .nil) ?_))))
      refine ⟨_, ⟨?_, rfl⟩, inferInstance⟩
      refine congrArg Value.bool (Eq.symm ?_)
      rw [← Bool.not_eq_true, ownB_iff]; omega
    · intro g1_7
      refine s_val rfl (v_move rfl) (s_yes rfl rfl (s_val rfl (v_gtr rfl rfl) (s_val rfl (v_pick_f rfl rfl) (s_val rfl (v_move rfl) ?_))))
      refine s_or rfl rfl rfl ?_ ?_
      · intro g1_11
        refine s_no rfl rfl rfl rfl (s_no rfl rfl rfl rfl (s_no rfl rfl rfl rfl (s_no rfl rfl rfl rfl (s_val rfl (v_pick_t rfl rfl) (x_nil (n_then (x_ift rfl (x_seq (x_region (s_do0 (d_store Tryz.sizeOf4 rfl rfl rfl (Nat.le_of_ble_eq_true rfl) SetL.eq) ?_))))))))))
        rintro _ _ rfl
        refine x_nil (n_then (x_ret (r_then (x_done (.inl rfl) (.cons (r_cell Tryz.isAgg4 rfl (cell_own rfl)) .nil) ?_))))
        refine ⟨_, ⟨?_, rfl⟩, inferInstance⟩
        refine congrArg Value.bool (Eq.symm ?_)
        rw [← Bool.not_eq_true, ownB_iff]; omega
      · intro g1_11
        refine s_val rfl (v_move rfl) (s_yes rfl rfl (s_val rfl (v_move rfl) (s_yes rfl rfl ?_)))
        refine s_val rfl (v_conv Tryz.underlying47 Tryz.underlying3 rfl (by first | exact w64 (by omega) | rfl)) ?_
        refine s_yes rfl rfl ?_
        refine s_val rfl (v_sub rfl rfl (by first | exact w64 (by omega) | rfl)) ?_
        refine s_yes rfl rfl (s_val rfl (v_gtr rfl rfl) (s_val rfl (v_pick_f rfl rfl) (x_nil (n_then ?_))))
        refine x_if rfl ?_ ?_
        · intro c1
          refine x_seq (x_region (s_do0 (d_store Tryz.sizeOf4 rfl rfl rfl (Nat.le_of_ble_eq_true rfl) SetL.eq) ?_))
          rintro _ _ rfl
          refine x_nil (n_then (x_ret (r_then (x_done (.inl rfl) (.cons (r_cell Tryz.isAgg4 rfl (cell_own rfl)) .nil) ?_))))
          refine ⟨_, ⟨?_, rfl⟩, inferInstance⟩
          refine congrArg Value.bool (Eq.symm ?_)
          rw [← Bool.not_eq_true, ownB_iff]; omega
        · intro c1
          refine x_skip (n_then (x_seq (x_seq ?_)))
          obtain ⟨k, rfl⟩ : ∃ k : Nat, n = (k : Int) := ⟨n.toNat, by omega⟩
          have hk : pa + k ≤ 512 := by omega
          refine x_region (s_val rfl (v_move rfl) ?_)
          refine s_val rfl (v_conv Tryz.underlying47 Tryz.underlying3 rfl (by first | exact w64 (by omega) | rfl)) ?_
          refine s_val rfl (v_move rfl) (s_do rfl (d_call Tryz.call195 rfl (pieces_spec W0 _ pa k)) ?_)
          rintro _ B_ ⟨bn, bp, rfl, hB_⟩
          obtain rfl := hB_.symm
          refine x_nil (n_then (x_block ?_))
          refine x_rangeFunc (fun C => ownA fr.length pg pa k ∧ C = pt pv (viO ps pm d) :: pt b2 (cob [.bool false] 4) :: pt b1 (cob [.pointer (some ⟨pv, 0, none⟩)] 51) :: stoH ps fr :: pt pm (gmO pg) :: R) (fun C => ¬ ownA fr.length pg pa k ∧ C = pt pv (viO ps pm d) :: pt b2 (cob [.bool false] 4) :: pt b1 (cob [.pointer (some ⟨pv, 0, none⟩)] 51) :: stoH ps fr :: pt pm (gmO pg) :: R) rfl Tryz.call236 ?_ ?_ ?_
          · intro L D
            refine pieces_range pa k (fun _ => pt pv (viO ps pm d) :: pt b2 (cob [.bool false] 4) :: pt b1 (cob [.pointer (some ⟨pv, 0, none⟩)] 51) :: stoH ps fr :: pt pm (gmO pg) :: R) (fun i => ownA fr.length pg pa i) (by omega) (by omega) perm2 (fun i hi => by omega) (fun hI => ⟨hI, rfl⟩) ?_
            intro at_ R' h1 h2
            simp only [List.cons_append, List.nil_append]
            refine rounds_intro rfl rfl ?_
            refine x_region (s_do rfl (d_allocA Tryz.zeroValue286) ?_)
            rintro _ _ ⟨b3, rfl, rfl⟩
            refine s_do0 (d_storeAll Tryz.sizeOf286 rfl rfl rfl rfl rfl) ?_
            rintro _ _ rfl
            refine x_nil (n_begin rfl ?_)
            refine x_block (x_seq (x_region (s_val rfl (v_load Tryz.isAgg51 rfl (cell_own rfl)) ?_)))
            refine s_val rfl (v_fieldAddr rfl Tryz.underlying286 rfl Tryz.sizeOf3 rfl (by first | exact Nat.zero_add _ | rfl)) ?_
            refine s_val rfl (v_load Tryz.isAgg3 rfl (cell_own rfl)) ?_
            refine s_do rfl (d_call3 Tryz.call196 rfl (viFrame_spec W0 _ pv ps pm d fr pg h (((pa + at_) / 64 : Nat) : Int))) ?_
            rintro _ B_ ⟨rfl, hB_⟩
            obtain rfl := hB_.symm
            refine s_val rfl (v_move rfl) (s_val rfl (v_extract rfl rfl) (s_val rfl (v_extract rfl rfl) (s_val rfl (v_assign rfl) (s_val rfl (v_assign rfl) (x_nil (n_then (x_seq (x_region (s_val rfl (v_move rfl) (s_val rfl (v_not rfl) (x_nil (n_then ?_))))))))))))
            refine x_if rfl ?_ ?_
            · intro c6
              refine x_seq (x_region (s_do0 (d_store Tryz.sizeOf4 rfl rfl rfl (Nat.le_of_ble_eq_true rfl) SetL.eq) ?_))
              rintro _ _ rfl
              refine x_nil (n_then (x_ret (r_block (r_stop ?_))))
              have hn : ¬ ownA fr.length pg pa k := fun q => c6 (q at_ h1)
              refine ⟨_, .inr ⟨rfl, _, ⟨hn, rfl⟩, rfl⟩, ?_⟩
              simp only [List.cons_append]
              exact inferInstance
            · intro c6
              refine x_skip (n_block (r_go ?_))
              have hb : frmB fr.length pg (pgI (pa + at_)) = true := Decidable.not_not.1 c6
              have hI' : ownA fr.length pg pa (at_ + pcN pa k at_) := fun i hi => by
                rcases Nat.lt_or_ge i at_ with q | q
                · exact h2 i q
                · rw [pgI, pc_page q hi]; exact hb
              exact ⟨_, .inl ⟨rfl, hI', rfl⟩, inferInstance⟩
          · intro D C hC
            obtain ⟨hown, rfl⟩ := hC
            refine n_block (n_then (x_seq (x_region (s_do0 (d_store Tryz.sizeOf4 rfl rfl rfl (Nat.le_of_ble_eq_true rfl) SetL.eq) ?_))))
            rintro _ _ rfl
            refine x_nil (n_then (x_ret (x_doneM (.inl rfl) (.cons (r_cell Tryz.isAgg4 rfl (cell_own rfl)) .nil) ?_)))
            refine ⟨_, ⟨?_, rfl⟩, inferInstance⟩
            refine congrArg Value.bool (Eq.symm ?_)
            rw [ownB_nat]; exact ⟨hk, hown⟩
          · intro D C hC
            obtain ⟨hown, rfl⟩ := hC
            refine r_block (r_then (x_doneM (.inl rfl) (.cons (r_cell Tryz.isAgg4 rfl (cell_own rfl)) .nil) ?_))
            refine ⟨_, ⟨?_, rfl⟩, inferInstance⟩
            refine congrArg Value.bool (Eq.symm ?_)
            rw [← Bool.not_eq_true, ownB_nat]; exact fun q => hown q.2
end Go.Proofs.YtncegikenkpcmaaGreat
namespace Go.Proofs.YtncegikenkpcmaaGreat
open Go.RowKit
set_option linter.unusedSimpArgs false
set_option linter.unusedVariables false
set_option maxRecDepth 20000
def whr (pg : List Pl) (a : Nat) : Int := (gGot pg (pgI a)).1
theorem viEach_spec (W0 : World) (R : List HP) (pv ps pm : Nat) (pg : List Pl) (h : Pgs pg) (pa n : Nat) (hpa : pa + n ≤ 512) (dd : Nat → Nat) (ff : Nat → List Frm) (DH : Nat → HP) (gf : FuncId) (us : List Value)
    (hcall : ∀ args w, (callFunc gf args).run Tryz.prog w = .ok (.enter gf args) w)
    (hdo : ∀ i, i < n → ∀ R', Ent R' R → Spec Tryz.prog W0 gf (.int .i64 (whr pg (pa + i)) :: .int .i64 ((pa + i) % 64 : Nat) :: .int .i64 (i : Nat) :: us) (pt pv (viO ps pm (dd i)) :: stoH ps (ff i) :: pt pm (gmO pg) :: kH 0 (DH i) :: R')
      (fun v B => v = .tuple #[] ∧ B = pt pv (viO ps pm (dd (i + 1))) :: stoH ps (ff (i + 1)) :: pt pm (gmO pg) :: kH 0 (DH (i + 1)) :: R')) :
    Spec Tryz.prog W0 133 [.pointer (some ⟨pv, 0, none⟩), .int .u32 pa, .int .i64 n, .func (.func gf) #[] us.toArray] (pt pv (viO ps pm (dd 0)) :: stoH ps (ff 0) :: pt pm (gmO pg) :: kH 0 (DH 0) :: R)
      (fun v B => v = .tuple #[] ∧ B = pt pv (viO ps pm (dd n)) :: stoH ps (ff n) :: pt pm (gmO pg) :: kH 0 (DH n) :: R) := by
  refine spec_body Tryz.func133 Tryz.ntmps133 rfl rfl ?_
  refine x_seq (x_region (s_do rfl (d_box rfl rfl) ?_))
  rintro _ _ ⟨b1, rfl, rfl⟩
  refine s_do rfl (d_box rfl rfl) ?_
  rintro _ _ ⟨b2, rfl, rfl⟩
  refine x_nil (n_then (x_seq (x_region (s_val rfl (v_move rfl) ?_))))
  refine s_val rfl (v_conv Tryz.underlying47 Tryz.underlying3 rfl (by first | exact w64 (by omega) | rfl)) ?_
  refine s_val rfl (v_move rfl) (s_do rfl (d_call Tryz.call195 rfl (pieces_spec W0 _ pa n)) ?_)
  rintro _ B_ ⟨bn, bp, rfl, hB_⟩
  obtain rfl := hB_.symm
  refine x_nil (n_then (x_block ?_))
  refine x_rangeFunc (fun C => C = pt b2 (cob [.func (.func gf) #[] us.toArray] 220) :: pt b1 (cob [.pointer (some ⟨pv, 0, none⟩)] 51) :: pt pv (viO ps pm (dd n)) :: stoH ps (ff n) :: pt pm (gmO pg) :: kH 0 (DH n) :: R) (fun C => False) rfl Tryz.call236 ?_ ?_ ?_
  · intro L D
    refine pieces_range pa n (fun i => pt b2 (cob [.func (.func gf) #[] us.toArray] 220) :: pt b1 (cob [.pointer (some ⟨pv, 0, none⟩)] 51) :: pt pv (viO ps pm (dd i)) :: stoH ps (ff i) :: pt pm (gmO pg) :: kH 0 (DH i) :: R) (fun i => True) (by omega) (by omega) perm2 trivial (fun hI => rfl) ?_
    intro at_ R' h1 h2
    simp only [List.cons_append, List.nil_append]
    refine rounds_intro rfl rfl ?_
    refine x_region (s_do rfl (d_allocA Tryz.zeroValue286) ?_)
    rintro _ _ ⟨b3, rfl, rfl⟩
    refine s_do0 (d_storeAll Tryz.sizeOf286 rfl rfl rfl rfl rfl) ?_
    rintro _ _ rfl
    refine x_nil (n_begin rfl ?_)
    refine x_block (x_seq (x_region (s_val rfl (v_load Tryz.isAgg51 rfl (cell_own rfl)) ?_)))
    refine s_val rfl (v_fieldAddr rfl Tryz.underlying286 rfl Tryz.sizeOf3 rfl (by first | exact Nat.zero_add _ | rfl)) ?_
    refine s_val rfl (v_load Tryz.isAgg3 rfl (cell_own rfl)) ?_
    refine s_do rfl (d_call3 Tryz.call196 rfl (viFrame_spec W0 _ pv ps pm (dd at_) (ff at_) pg h (((pa + at_) / 64 : Nat) : Int))) ?_
    rintro _ B_ ⟨rfl, hB_⟩
    obtain rfl := hB_.symm
    have hpos := pcN_pos (pa := pa) (n := n) (at_ := at_) h1
    refine s_val rfl (v_move rfl) (s_val rfl (v_extract rfl rfl) (s_val rfl (v_extract rfl rfl) (s_val rfl (v_assign rfl) (s_val rfl (v_assign rfl) (x_nil (n_then (x_seq ?_)))))))
    refine run_tk (r := recH) (b := L) (run_name fun HL hHL => ?_)
    refine x_region ?_
    refine s_val rfl (v_fieldAddr rfl Tryz.underlying286 rfl Tryz.sizeOf3 rfl (by first | exact Nat.zero_add _ | rfl)) ?_
    refine s_val rfl (v_load Tryz.isAgg3 rfl (cell_own rfl)) ?_
    refine s_val rfl (v_move rfl) (x_nil (n_then (x_block ?_)))
    refine x_loop (fun i : Nat => i ≤ pcN pa n at_) (fun i => [(4, .pointer (some ⟨b1, 0, none⟩)), (7, .pointer (some ⟨b2, 0, none⟩)), (8, .pointer (some ⟨b3, 0, none⟩)), (9, .int .i64 (whr pg (pa + at_))), (25, .int .i64 (pcN pa n at_ : Nat)), (26, .int .i64 i)]) (fun i => kH 1 HL :: pt D (.deferred (some [])) :: pt b3 (cob (pcV pa n at_) 286) :: pt b2 (cob [.func (.func gf) #[] us.toArray] 220) :: pt b1 (cob [.pointer (some ⟨pv, 0, none⟩)] 51) :: pt pv (viO ps pm (dd (at_ + i))) :: stoH ps (ff (at_ + i)) :: pt pm (gmO pg) :: kH 0 (DH (at_ + i)) :: (R ++ R')) (fun i => pcN pa n at_ - i) 0 ?_ ?_ ?_ ?_
    · exact Nat.zero_le _
    · repeat (first | exact sub_nil | refine sub_cons rfl ?_)
    · simp only [Nat.add_zero]; exact inferInstance
    · intro i hi
      refine x_seq (x_region (s_val rfl (v_lss rfl rfl) (x_nil (n_then (x_seq ?_)))))
      refine x_if rfl ?_ ?_
      · intro c5
        refine x_skip (n_then (x_seq (x_block (x_seq (x_region (s_val rfl (v_move rfl) (s_val rfl (v_assign rfl) (x_nil (n_then ?_)))))))))
        have hlt : i < pcN pa n at_ := by omega
        have hd := hdo (at_ + i) (by omega)
        rw [show whr pg (pa + (at_ + i)) = whr pg (pa + at_) by rw [whr, pgI, (pc_off hlt).1]; rfl, (pc_off hlt).2] at hd
        refine x_region (s_val rfl (v_load Tryz.isAgg220 rfl (cell_own rfl)) ?_)
        refine s_val rfl (v_move rfl) ?_
        refine s_val rfl (v_fieldAddr rfl Tryz.underlying286 rfl Tryz.sizeOf3 rfl (by first | exact Nat.zero_add _ | rfl)) ?_
        refine s_val rfl (v_load Tryz.isAgg3 rfl (cell_own rfl)) ?_
        refine s_val rfl (v_move rfl) ?_
        refine s_val rfl (v_add rfl rfl (by rw [w64 (by omega)]; omega : IntKind.wrap .i64 ((((pa + at_) % 64 : Nat) : Int) + (i : Int)) = (((pa + at_) % 64 + i : Nat) : Int))) ?_
        refine s_val rfl (v_fieldAddr rfl Tryz.underlying286 rfl Tryz.sizeOf3 rfl (by first | exact Nat.zero_add _ | rfl)) ?_
        refine s_val rfl (v_load Tryz.isAgg3 rfl (cell_own rfl)) ?_
        refine s_val rfl (v_move rfl) ?_
        refine s_val rfl (v_add rfl rfl (by rw [w64 (by omega)]; omega : IntKind.wrap .i64 ((at_ : Int) + (i : Int)) = ((at_ + i : Nat) : Int))) ?_
        refine s_do rfl (d_callv4 rfl hcall rfl (hd _ inferInstance)) ?_
        rintro _ B_ ⟨rfl, hB_⟩
        obtain rfl := hB_.symm
        refine x_nil (n_block (n_then (x_region ?_)))
        refine s_val rfl (v_add rfl rfl (by first | exact w64 (by omega) | rfl)) ?_
        refine s_val rfl (v_move rfl) (x_nil (n_then ?_))
        refine inv_intro (i + 1) ?_ ?_ ?_ ?_
        · omega
        · omega
        · repeat (first | exact sub_nil | refine sub_cons rfl ?_)
        · simp only [← Nat.add_assoc]; exact inferInstance
      · intro c5
        refine x_exit (e_then (e_then (e_block (n_block ?_))))
        have e1 : i = pcN pa n at_ := by omega
        subst e1
        subst hHL
        refine run_unname ?_
        refine r_go ?_
        exact ⟨_, .inl ⟨rfl, trivial, rfl⟩, inferInstance⟩
  · intro D C hC
    obtain rfl := hC
    refine n_block (x_doneM (.inr rfl) .nil ?_)
    exact ⟨_, ⟨rfl, rfl⟩, inferInstance⟩
  · intro D C hC
    exact hC.elim
end Go.Proofs.YtncegikenkpcmaaGreat
namespace Go.Proofs.YtncegikenkpcmaaGreat
open Go.RowKit
set_option linter.unusedSimpArgs false
set_option linter.unusedVariables false
set_option maxRecDepth 20000
def rdv (fr : List Frm) (pg : List Pl) (a : Nat) : Nat := ldN fr (whr pg a) ((a % 64 : Nat) : Int) 1
def rdL (fr : List Frm) (pg : List Pl) (pa n : Nat) : List Nat := (List.range n).map fun i => rdv fr pg (pa + i)
def rdO (fr : List Frm) (pg : List Pl) (pa : Nat) (n : Int) : List Nat := if ownB fr.length pg pa n then rdL fr pg pa n.toNat else []
theorem ldN_lt1 {fr : List Frm} (hF : Frs fr) (f off : Int) : ldN fr f off 1 < 256 := by
  unfold ldN; split
  · rename_i hf
    obtain ⟨i, rfl, hi⟩ := isF_nat hf
    unfold getN; split
    · have hb := (hF.get hi).2
      have := leN_lt ((hb.drop off.toNat).take (1 : Int).toNat)
      refine Nat.lt_of_lt_of_le this ?_
      have : ((List.drop off.toNat (fr.getD (i : Int).toNat [])).take (1 : Int).toNat).length ≤ 1 := by simp; omega
      exact Nat.pow_le_pow_right (by decide) this
    · decide
  · decide
theorem rdv_lt {fr : List Frm} (hF : Frs fr) (pg : List Pl) (a : Nat) : rdv fr pg a < 256 := ldN_lt1 hF _ _
theorem rdL_len (fr : List Frm) (pg : List Pl) (pa n : Nat) : (rdL fr pg pa n).length = n := by simp [rdL]
theorem rdL_by {fr : List Frm} (hF : Frs fr) (pg : List Pl) (pa n : Nat) : By (rdL fr pg pa n) := fun b hb => by
  obtain ⟨i, _, rfl⟩ := List.mem_map.1 hb
  exact rdv_lt hF _ _
theorem rdO_by {fr : List Frm} (hF : Frs fr) (pg : List Pl) (pa : Nat) (n : Int) : By (rdO fr pg pa n) := by
  unfold rdO; split
  · exact rdL_by hF _ _ _
  · exact fun b hb => by simp at hb
def outL (f : Nat → Nat) (n i : Nat) : List Nat := (List.range n).map fun j => if j < i then f j else 0
theorem outL_len (f : Nat → Nat) (n i : Nat) : (outL f n i).length = n := by simp [outL]
theorem outL_zero (f : Nat → Nat) (n : Nat) : byV (outL f n 0) = List.replicate n (bV 0) := by
  apply List.ext_getElem <;> simp [outL, byV]
theorem outL_full (f : Nat → Nat) (n : Nat) : outL f n n = (List.range n).map f := by
  apply List.ext_getElem
  · simp [outL]
  · intro i h1 h2
    have : i < n := by simpa using h2
    simp [outL, this]
theorem outL_set {f : Nat → Nat} {n i : Nat} (hi : i < n) : (byV (outL f n i)).set i (bV (f i)) = byV (outL f n (i + 1)) := by
  apply List.ext_getElem
  · simp [outL, byV]
  · intro j h1 h2
    have hj : j < n := by simpa [outL, byV] using h2
    by_cases e : i = j
    · subst e; simp [outL, byV]
    · have : (j < i + 1) ↔ j < i := by omega
      simp [outL, byV, List.getElem_set, e, this]
theorem outL_set1 {f : Nat → Nat} {n i : Nat} (hi : i < n) : (byV (outL f n i)).set (i * 1) (bV (f i)) = byV (outL f n (i + 1)) := by rw [Nat.mul_one]; exact outL_set hi
abbrev rdD (pv b1 b2 g n i : Nat) (f : Nat → Nat) : HP := grp [pt b1 (cob [.pointer (some ⟨pv, 0, none⟩)] 51), pt b2 (cob [.slice (some ⟨g, 0, none⟩) n n] 44), pt g (cob (byV (outL f n i)) 5)]
theorem viRead1_spec (W0 : World) (R : List HP) (pv ps pm d b1 b2 g n i : Nat) (fr : List Frm) (pg : List Pl) (hF : Frs fr) (pa : Nat) (hi : i < n) (hn : n ≤ 512) :
    Spec Tryz.prog W0 146 [.int .i64 (whr pg (pa + i)), .int .i64 ((pa + i) % 64 : Nat), .int .i64 (i : Nat), .pointer (some ⟨b1, 0, none⟩), .pointer (some ⟨b2, 0, none⟩)]
      (pt pv (viO ps pm d) :: stoH ps fr :: pt pm (gmO pg) :: kH 0 (rdD pv b1 b2 g n i (fun j => rdv fr pg (pa + j))) :: R)
      (fun v B => v = .tuple #[] ∧ B = pt pv (viO ps pm d) :: stoH ps fr :: pt pm (gmO pg) :: kH 0 (rdD pv b1 b2 g n (i + 1) (fun j => rdv fr pg (pa + j))) :: R) := by
  have hlt := rdv_lt hF pg (pa + i)
  refine spec_perm (perm1 (r1 := kH) (b1 := 0)) (spec_kgrp ?_)
  simp only [List.cons_append, List.nil_append]
  refine spec_body Tryz.func146 Tryz.ntmps146 rfl rfl ?_
  refine x_seq (x_region (s_val rfl (v_load Tryz.isAgg51 rfl (cell_own rfl)) ?_))
  refine s_val rfl (v_nilCheck rfl) ?_
  refine s_val rfl (v_fieldAddr rfl Tryz.underlying188 rfl Tryz.sizeOf80 rfl (by first | exact Nat.zero_add _ | rfl)) ?_
  refine s_val rfl (v_load Tryz.isAgg80 rfl (cell_own rfl)) ?_
  refine s_val rfl (v_move rfl) (s_val rfl (v_move rfl) (s_do rfl (d_call1 Tryz.call147 rfl (frLoad_spec W0 _ ps fr _ _ 1 hF)) ?_))
  rintro _ B_ ⟨rfl, hB_⟩
  obtain rfl := hB_.symm
  refine s_val rfl (v_move rfl) (s_val rfl (v_extract rfl rfl) (s_val rfl (v_extract rfl rfl) (s_val rfl (v_assign rfl) (s_val rfl (v_assign rfl) (x_nil (n_then (x_region (s_val rfl (v_load Tryz.isAgg44 rfl (cell_own rfl)) ?_))))))))
  refine s_val rfl (v_move rfl) (s_val rfl (v_move rfl) ?_)
  refine s_val rfl (v_conv Tryz.underlying47 Tryz.underlying5 rfl (w8u (by rw [show ldN fr (whr pg (pa + i)) (((pa + i) % 64 : Nat) : Int) 1 = rdv fr pg (pa + i) from rfl]; omega))) ?_
  refine s_val rfl (v_idx Tryz.underlying44 Tryz.sizeOf5 rfl rfl rfl hi (by first | exact Nat.zero_add _ | rfl)) ?_
  refine s_do0 (d_store Tryz.sizeOf5 rfl rfl rfl (by rw [byV_len, outL_len]; omega) (outL_set1 (f := fun j => rdv fr pg (pa + j)) hi)) ?_
  rintro _ _ rfl
  refine x_nil (x_done (.inr rfl) .nil ?_)
  exact ⟨_, ⟨rfl, rfl⟩, inferInstance⟩
theorem viRead_spec (W0 : World) (R : List HP) (pv ps pm d : Nat) (fr : List Frm) (pg : List Pl) (h : Pgs pg) (hF : Frs fr) (pa : Nat) (hpa : pa < 4294967296) (n : Int) :
    Spec Tryz.prog W0 81 [.pointer (some ⟨pv, 0, none⟩), .int .u32 pa, .int .i64 n] (pt pv (viO ps pm d) :: stoH ps fr :: pt pm (gmO pg) :: R)
      (fun v B => ∃ a c, v = .tuple #[.slice a (rdO fr pg pa n).length c, .bool (ownB fr.length pg pa n)] ∧ B = osl 5 1 (.slice a (rdO fr pg pa n).length c) (byV (rdO fr pg pa n)) :: pt pv (viO ps pm d) :: stoH ps fr :: pt pm (gmO pg) :: R) := by
  by_cases ho : ownB fr.length pg pa n = true
  · obtain ⟨k, rfl⟩ : ∃ k : Nat, n = (k : Int) := ⟨n.toNat, by have := (ownB_iff.1 ho).1; omega⟩
    obtain ⟨hk, _⟩ := ownB_nat.1 ho
    have hr : rdO fr pg pa (k : Int) = rdL fr pg pa k := by rw [rdO, if_pos ho]; rfl
    rw [hr, rdL_len, ho]
    refine spec_body Tryz.func81 Tryz.ntmps81 rfl rfl ?_
    refine x_seq (x_region (s_do rfl (d_box rfl rfl) ?_))
    rintro _ _ ⟨b1, rfl, rfl⟩
    refine s_val rfl (v_assign rfl) (s_val rfl (v_assign rfl) (x_nil (n_then (x_seq (x_seq (x_region (s_val rfl (v_load Tryz.isAgg51 rfl (cell_own rfl)) ?_)))))))
    refine s_val rfl (v_move rfl) (s_val rfl (v_move rfl) (s_do rfl (d_call3 Tryz.call132 rfl (viOwn_spec W0 _ pv ps pm d fr pg h pa hpa k)) ?_))
    rintro _ B_ ⟨rfl, hB_⟩
    obtain rfl := hB_.symm
    refine s_val rfl (v_not rfl) (x_nil (n_then ?_))
    refine x_if rfl ?_ ?_
    · intro c1
      exact absurd ho c1
    · intro c1
      refine x_skip (n_then (x_seq (x_region (s_val rfl (v_move rfl) ?_))))
      refine s_do rfl (d_make (sz := 1) (by_ := 1) (info := Tryz.t5) Tryz.underlying44 (by kernel_rfl) rfl rfl rfl rfl (by decide) rfl rfl rfl rfl (by omega) (by decide)) ?_
      rintro _ _ ⟨b2, rfl, rfl⟩
      refine s_do rfl (d_alloc Tryz.zeroValue44 rfl) ?_
      rintro _ _ ⟨b3, rfl, rfl⟩
      refine s_do0 (d_store Tryz.sizeOf44 rfl rfl rfl (Nat.le_of_ble_eq_true rfl) SetL.eq) ?_
      rintro _ _ rfl
      refine x_nil (n_then (x_seq ?_))
      rw [show List.replicate (k * 1) (Value.int .u8 0) = byV (outL (fun j => rdv fr pg (pa + j)) k 0) by rw [outL_zero, Nat.mul_one]; rfl]
      refine x_region (s_val rfl (v_load Tryz.isAgg51 rfl (cell_own rfl)) ?_)
      refine s_val rfl (v_move rfl) (s_val rfl (v_move rfl) (s_val rfl (v_mkFunc rfl rfl) ?_))
      refine s_do rfl (does_ent inferInstance (d_call Tryz.call133 rfl (viEach_spec W0 R pv ps pm pg h pa k hk (fun _ => d) (fun _ => fr) (fun i => rdD pv b1 b3 b2 k i (fun j => rdv fr pg (pa + j))) 146 [.pointer (some ⟨b1, 0, none⟩), .pointer (some ⟨b3, 0, none⟩)] Tryz.call146 (fun i hi R' hR => viRead1_spec W0 R' pv ps pm d b1 b3 b2 k i fr pg hF pa hi (by omega))))) ?_
      rintro _ B_ ⟨rfl, hB_⟩
      obtain rfl := hB_.symm
      refine run_kgrp ?_
      simp only [List.cons_append, List.nil_append]
      refine x_nil (n_then (x_seq (x_region (s_val rfl (v_load Tryz.isAgg44 rfl (cell_own rfl)) ?_))))
      refine s_val rfl (v_assign rfl) (s_val rfl (v_assign rfl) (x_nil (n_then (x_ret (x_done (.inl rfl) (.cons (r_tmp rfl) (.cons (r_tmp rfl) .nil)) ?_)))))
      rw [outL_full]
      exact ⟨_, ⟨some ⟨b2, 0, none⟩, k, rfl, rfl⟩, ent_osl0 (by simp only [maxLen]; omega) (by rw [Nat.mul_one]; exact (byV_len _).trans (rdL_len fr pg pa k))⟩
  · have hr : rdO fr pg pa n = [] := by rw [rdO, if_neg ho]
    have ho' : ownB fr.length pg pa n = false := by simpa using ho
    rw [hr, ho']
    refine spec_body Tryz.func81 Tryz.ntmps81 rfl rfl ?_
    refine x_seq (x_region (s_do rfl (d_box rfl rfl) ?_))
    rintro _ _ ⟨b1, rfl, rfl⟩
    refine s_val rfl (v_assign rfl) (s_val rfl (v_assign rfl) (x_nil (n_then (x_seq (x_seq (x_region (s_val rfl (v_load Tryz.isAgg51 rfl (cell_own rfl)) ?_)))))))
    refine s_val rfl (v_move rfl) (s_val rfl (v_move rfl) (s_do rfl (d_call3 Tryz.call132 rfl (viOwn_spec W0 _ pv ps pm d fr pg h pa hpa n)) ?_))
    rintro _ B_ ⟨rfl, hB_⟩
    obtain rfl := hB_.symm
    refine s_val rfl (v_not rfl) (x_nil (n_then ?_))
    refine x_if rfl ?_ ?_
    · intro c1
      refine x_seq (x_region (s_val rfl (v_assign rfl) (s_val rfl (v_assign rfl) (x_nil (n_then (x_ret (r_then (x_done (.inl rfl) (.cons (r_tmp rfl) (.cons (r_tmp rfl) .nil)) ?_))))))))
      exact ⟨_, ⟨none, 0, rfl, rfl⟩, ent_osl_nil⟩
    · intro c1
      exact absurd (by rw [ho']; decide) c1
def wrK (fr : List Frm) (pg : List Pl) (pa : Nat) (bs : List Nat) : Nat → List Frm
  | 0 => fr
  | k + 1 => svF (wrK fr pg pa bs k) (whr pg (pa + k)) (((pa + k) % 64 : Nat) : Int) 1 (bs.getD k 0)
def wrD (d pa : Nat) : Nat → Nat
  | 0 => d
  | k + 1 => wrD d pa k ||| 2 ^ ((pa + k) / 64)
theorem wrK_ok {fr : List Frm} {pg : List Pl} {pa : Nat} {bs : List Nat} (h : Frs fr) : ∀ k, Frs (wrK fr pg pa bs k) ∧ (wrK fr pg pa bs k).length = fr.length
  | 0 => ⟨h, rfl⟩
  | k + 1 => ⟨svF_ok (wrK_ok h k).1, svF_len.trans (wrK_ok h k).2⟩
theorem wrD_lt {d pa : Nat} (h : d < 4096) : ∀ k, pa + k ≤ 512 → wrD d pa k < 4096
  | 0, _ => h
  | k + 1, hk => Nat.or_lt_two_pow (n := 12) (wrD_lt h k (by omega)) (page_lt (by omega))
def wrF (fr : List Frm) (pg : List Pl) (pa : Nat) (bs : List Nat) : List Frm := if ownB fr.length pg pa bs.length then wrK fr pg pa bs bs.length else fr
def wrE (fr : List Frm) (pg : List Pl) (pa : Nat) (d n : Nat) : Nat := if ownB fr.length pg pa n then wrD d pa n else d
theorem wrF_ok {fr : List Frm} {pg : List Pl} {pa : Nat} {bs : List Nat} (h : Frs fr) : Frs (wrF fr pg pa bs) ∧ (wrF fr pg pa bs).length = fr.length := by
  unfold wrF; split
  · exact wrK_ok h _
  · exact ⟨h, rfl⟩
theorem wrE_lt {fr : List Frm} {pg : List Pl} {pa d n : Nat} (h : d < 4096) : wrE fr pg pa d n < 4096 := by
  unfold wrE; split
  · rename_i ho; exact wrD_lt h _ (ownB_nat.1 ho).1
  · exact h
abbrev wrH (pv pa b1 b2 b3 : Nat) (a : Option Addr) (n c : Nat) : HP := grp [pt b1 (cob [.pointer (some ⟨pv, 0, none⟩)] 51), pt b2 (cob [.int .u32 pa] 47), pt b3 (cob [.slice a n c] 44)]
theorem viWrite1_spec (W0 : World) (R : List HP) (pv ps pm d b1 b2 b3 c i : Nat) (a : Option Addr) (fr : List Frm) (pg : List Pl) (hF : Frs fr) (pa : Nat) (bs : List Nat) (hb : By bs) (hs : SlA (OwnP W0 R) a 1 (fun x => [bV x]) bs) (hi : i < bs.length) (hn : pa + bs.length ≤ 512) (hd : d < 4096) :
    Spec Tryz.prog W0 134 [.int .i64 (whr pg (pa + i)), .int .i64 ((pa + i) % 64 : Nat), .int .i64 (i : Nat), .pointer (some ⟨b1, 0, none⟩), .pointer (some ⟨b3, 0, none⟩), .pointer (some ⟨b2, 0, none⟩)]
      (pt pv (viO ps pm d) :: stoH ps fr :: pt pm (gmO pg) :: kH 0 (wrH pv pa b1 b2 b3 a bs.length c) :: R)
      (fun v B => v = .tuple #[] ∧ B = pt pv (viO ps pm (d ||| 2 ^ ((pa + i) / 64))) :: stoH ps (svF fr (whr pg (pa + i)) (((pa + i) % 64 : Nat) : Int) 1 (bs.getD i 0)) :: pt pm (gmO pg) :: kH 0 (wrH pv pa b1 b2 b3 a bs.length c) :: R) := by
  obtain ⟨gb, ob, rfl, hc⟩ := hs.at_ hi
  have hx : bs[i] < 256 := hb.get hi
  have hg : bs.getD i 0 = bs[i] := by simp [List.getD, hi]
  have hp := page_lt (n := (pa + i) / 64) (by omega)
  rw [hg]
  refine spec_perm (perm1 (r1 := kH) (b1 := 0)) (spec_kgrp ?_)
  simp only [List.cons_append, List.nil_append]
  refine spec_body Tryz.func134 Tryz.ntmps134 rfl rfl ?_
  refine x_seq ?_
  refine x_draw [(b1, 0, _), (pv, 0, _), (b3, 0, _), (gb, ob + i * 1, [bV bs[i]])] 12 mixed rfl (sc_own (sc_own (sc_own (sc_cons hc.weak sc_end)))) (fun hS => ?_)
  refine d_take 0 rfl rfl (by kernel_rfl) (by kernel_rfl) (by kernel_rfl) rfl hS (v_load Tryz.isAgg51 rfl (by first | exact cell_sc0 (k := 0) rfl rfl | exact cell_sc0 (k := 1) rfl rfl | exact cell_sc0 (k := 2) rfl rfl | exact cell_sc0 (k := 3) rfl rfl)) ?_
  refine d_take 1 rfl rfl (by kernel_rfl) (by kernel_rfl) (by kernel_rfl) rfl hS (v_nilCheck rfl) ?_
  refine d_take 2 rfl rfl (by kernel_rfl) (by kernel_rfl) (by kernel_rfl) rfl hS (v_fieldAddr rfl Tryz.underlying188 rfl Tryz.sizeOf80 rfl (by first | exact Nat.zero_add _ | rfl)) ?_
  refine d_take 3 rfl rfl (by kernel_rfl) (by kernel_rfl) (by kernel_rfl) rfl hS (v_load Tryz.isAgg80 rfl (by first | exact cell_sc0 (k := 0) rfl rfl | exact cell_sc0 (k := 1) rfl rfl | exact cell_sc0 (k := 2) rfl rfl | exact cell_sc0 (k := 3) rfl rfl)) ?_
  refine d_take 4 rfl rfl (by kernel_rfl) (by kernel_rfl) (by kernel_rfl) rfl hS (v_move rfl) ?_
  refine d_take 5 rfl rfl (by kernel_rfl) (by kernel_rfl) (by kernel_rfl) rfl hS (v_move rfl) ?_
  refine d_take 6 rfl rfl (by kernel_rfl) (by kernel_rfl) (by kernel_rfl) rfl hS (v_load Tryz.isAgg44 rfl (by first | exact cell_sc0 (k := 0) rfl rfl | exact cell_sc0 (k := 1) rfl rfl | exact cell_sc0 (k := 2) rfl rfl | exact cell_sc0 (k := 3) rfl rfl)) ?_
  refine d_take 7 rfl rfl (by kernel_rfl) (by kernel_rfl) (by kernel_rfl) rfl hS (v_move rfl) ?_
  refine d_take 8 rfl rfl (by kernel_rfl) (by kernel_rfl) (by kernel_rfl) rfl hS (v_idx Tryz.underlying44 Tryz.sizeOf5 rfl rfl rfl hi (by first | exact Nat.zero_add _ | rfl)) ?_
  refine d_take 9 rfl rfl (by kernel_rfl) (by kernel_rfl) (by kernel_rfl) rfl hS (v_load Tryz.isAgg5 rfl (cell_sc1 (k := 3) rfl)) ?_
  refine d_take 10 rfl rfl (by kernel_rfl) (by kernel_rfl) (by kernel_rfl) rfl hS (v_conv Tryz.underlying5 Tryz.underlying47 rfl (w32u (by omega))) ?_
  refine d_one 11 (by kernel_rfl) rfl rfl (d_call1 Tryz.call105 rfl (frSave_spec W0 _ ps fr _ _ 1 bs[i] (by omega) hF)) rfl ?_; clear hS
  rintro _ B_ ⟨rfl, hB_⟩
  obtain rfl := hB_.symm
  refine ⟨(sc_own (sc_own (sc_own (sc_cons hc.weak sc_end)))), fun hS => ?_⟩
  refine d_done (by kernel_rfl) ?_; clear hS
  refine n_then ?_
  refine x_draw [(b1, 0, _), (b2, 0, _)] 14 mixed rfl (sc_own (sc_own sc_end)) (fun hS => ?_)
  refine d_take 0 rfl rfl (by kernel_rfl) (by kernel_rfl) (by kernel_rfl) rfl hS (v_load Tryz.isAgg51 rfl (by first | exact cell_sc0 (k := 0) rfl rfl | exact cell_sc0 (k := 1) rfl rfl)) ?_
  refine d_take 1 rfl rfl (by kernel_rfl) (by kernel_rfl) (by kernel_rfl) rfl hS (v_nilCheck rfl) ?_
  refine d_take 2 rfl rfl (by kernel_rfl) (by kernel_rfl) (by kernel_rfl) rfl hS (v_fieldAddr rfl Tryz.underlying188 rfl Tryz.sizeOf47 rfl (by first | exact Nat.zero_add _ | rfl)) ?_
  refine d_take 4 rfl rfl (by kernel_rfl) (by kernel_rfl) (by kernel_rfl) rfl hS (v_load Tryz.isAgg47 rfl (by first | exact cell_sc0 (k := 0) rfl rfl | exact cell_sc0 (k := 1) rfl rfl)) ?_
  refine d_take 5 rfl rfl (by kernel_rfl) (by kernel_rfl) (by kernel_rfl) rfl hS (v_conv Tryz.underlying47 Tryz.underlying3 rfl (w64 (by omega))) ?_
  refine d_take 6 rfl rfl (by kernel_rfl) (by kernel_rfl) (by kernel_rfl) rfl hS (v_move rfl) ?_
  refine d_take 7 rfl rfl (by kernel_rfl) (by kernel_rfl) (by kernel_rfl) rfl hS (v_add rfl rfl (by rw [w64 (by omega)]; omega : IntKind.wrap .i64 ((pa : Int) + (i : Int)) = ((pa + i : Nat) : Int))) ?_
  refine d_take 8 rfl rfl (by kernel_rfl) (by kernel_rfl) (by kernel_rfl) rfl hS (v_quo rfl rfl (by decide) ((congrArg (IntKind.wrap .i64) (tdivN (pa + i) 64)).trans (w64 (by omega)))) ?_
  refine d_take 9 rfl rfl (by kernel_rfl) (by kernel_rfl) (by kernel_rfl) rfl hS (v_shl rfl rfl (by omega) (shl_page (by omega))) ?_
  refine d_one 3 (by kernel_rfl) rfl rfl (d_val (v_load Tryz.isAgg47 rfl (cell_own rfl))) rfl ?_; clear hS
  rintro _ _ ⟨rfl, rfl⟩
  refine ⟨(sc_own (sc_own sc_end)), fun hS => ?_⟩
  refine d_take 10 rfl rfl (by kernel_rfl) (by kernel_rfl) (by kernel_rfl) rfl hS (v_or rfl rfl (bOr_u32 (by omega) (by omega))) ?_
  refine d_take 11 rfl rfl (by kernel_rfl) (by kernel_rfl) (by kernel_rfl) rfl hS (v_nilCheck rfl) ?_
  refine d_take 12 rfl rfl (by kernel_rfl) (by kernel_rfl) (by kernel_rfl) rfl hS (v_fieldAddr rfl Tryz.underlying188 rfl Tryz.sizeOf47 rfl (by first | exact Nat.zero_add _ | rfl)) ?_
  refine d_one 13 (by kernel_rfl) rfl rfl (d_store Tryz.sizeOf47 rfl rfl rfl (Nat.le_of_ble_eq_true rfl) SetL.eq) rfl ?_; clear hS
  rintro _ _ rfl
  refine ⟨(sc_own (sc_own sc_end)), fun hS => ?_⟩
  refine d_done (by kernel_rfl) ?_; clear hS
  refine x_done (.inr rfl) .nil ?_
  exact ⟨_, ⟨rfl, rfl⟩, inferInstance⟩
theorem viWrite_spec (W0 : World) (R : List HP) (pv ps pm d c : Nat) (a : Option Addr) (fr : List Frm) (pg : List Pl) (h : Pgs pg) (hF : Frs fr) (hd : d < 4096) (pa : Nat) (hpa : pa < 4294967296) (bs : List Nat) (hb : By bs) (hs : SlA (OwnP W0 R) a 1 (fun x => [bV x]) bs) (hlen : bs.length < 9223372036854775808) :
    Spec Tryz.prog W0 67 [.pointer (some ⟨pv, 0, none⟩), .int .u32 pa, .slice a bs.length c] (pt pv (viO ps pm d) :: stoH ps fr :: pt pm (gmO pg) :: R)
      (fun v B => v = .bool (ownB fr.length pg pa bs.length) ∧ B = pt pv (viO ps pm (wrE fr pg pa d bs.length)) :: stoH ps (wrF fr pg pa bs) :: pt pm (gmO pg) :: R) := by
  by_cases ho : ownB fr.length pg pa bs.length = true
  · obtain ⟨hk, _⟩ := ownB_nat.1 ho
    rw [wrE, if_pos ho, wrF, if_pos ho, ho]
    refine spec_body Tryz.func67 Tryz.ntmps67 rfl rfl ?_
    refine x_seq (x_region (s_do rfl (d_box rfl rfl) ?_))
    rintro _ _ ⟨b1, rfl, rfl⟩
    refine s_do rfl (d_box rfl rfl) ?_
    rintro _ _ ⟨b2, rfl, rfl⟩
    refine s_do rfl (d_box rfl rfl) ?_
    rintro _ _ ⟨b3, rfl, rfl⟩
    refine s_val rfl (v_assign rfl) (x_nil (n_then (x_seq (x_seq (x_region (s_val rfl (v_load Tryz.isAgg51 rfl (cell_own rfl)) ?_))))))
    refine s_val rfl (v_load Tryz.isAgg47 rfl (cell_own rfl)) ?_
    refine s_val rfl (v_load Tryz.isAgg44 rfl (cell_own rfl)) ?_
    refine s_val rfl (v_len_slice Tryz.underlying44 rfl) (s_do rfl (d_call3 Tryz.call132 rfl (viOwn_spec W0 _ pv ps pm d fr pg h pa hpa bs.length)) ?_)
    rintro _ B_ ⟨rfl, hB_⟩
    obtain rfl := hB_.symm
    refine s_val rfl (v_not rfl) (x_nil (n_then ?_))
    refine x_if rfl ?_ ?_
    · intro c1
      exact absurd ho c1
    · intro c1
      refine x_skip (n_then (x_seq (x_region (s_val rfl (v_load Tryz.isAgg51 rfl (cell_own rfl)) ?_))))
      refine s_val rfl (v_load Tryz.isAgg47 rfl (cell_own rfl)) ?_
      refine s_val rfl (v_load Tryz.isAgg44 rfl (cell_own rfl)) ?_
      refine s_val rfl (v_len_slice Tryz.underlying44 rfl) (s_val rfl (v_mkFunc rfl rfl) ?_)
      refine s_do rfl (does_ent (by simp only [wrD, wrK]; exact inferInstance) (d_call Tryz.call133 rfl (viEach_spec W0 R pv ps pm pg h pa bs.length hk (wrD d pa) (wrK fr pg pa bs) (fun _ => wrH pv pa b1 b2 b3 a bs.length c) 134 [.pointer (some ⟨b1, 0, none⟩), .pointer (some ⟨b3, 0, none⟩), .pointer (some ⟨b2, 0, none⟩)] Tryz.call134 (fun i hi R' hR => viWrite1_spec W0 R' pv ps pm _ b1 b2 b3 c i a _ pg (wrK_ok hF i).1 pa bs hb hs.weak hi hk (wrD_lt hd i (by omega)))))) ?_
      rintro _ B_ ⟨rfl, hB_⟩
      obtain rfl := hB_.symm
      refine x_nil (n_then (x_seq (x_region (s_val rfl (v_assign rfl) (x_nil (n_then (x_ret (x_done (.inl rfl) (.cons (r_tmp rfl) .nil) ?_))))))))
      exact ⟨_, ⟨rfl, rfl⟩, inferInstance⟩
  · have ho' : ownB fr.length pg pa bs.length = false := by simpa using ho
    rw [wrE, if_neg ho, wrF, if_neg ho, ho']
    refine spec_body Tryz.func67 Tryz.ntmps67 rfl rfl ?_
    refine x_seq (x_region (s_do rfl (d_box rfl rfl) ?_))
    rintro _ _ ⟨b1, rfl, rfl⟩
    refine s_do rfl (d_box rfl rfl) ?_
    rintro _ _ ⟨b2, rfl, rfl⟩
    refine s_do rfl (d_box rfl rfl) ?_
    rintro _ _ ⟨b3, rfl, rfl⟩
    refine s_val rfl (v_assign rfl) (x_nil (n_then (x_seq (x_seq (x_region (s_val rfl (v_load Tryz.isAgg51 rfl (cell_own rfl)) ?_))))))
    refine s_val rfl (v_load Tryz.isAgg47 rfl (cell_own rfl)) ?_
    refine s_val rfl (v_load Tryz.isAgg44 rfl (cell_own rfl)) ?_
    refine s_val rfl (v_len_slice Tryz.underlying44 rfl) (s_do rfl (d_call3 Tryz.call132 rfl (viOwn_spec W0 _ pv ps pm d fr pg h pa hpa bs.length)) ?_)
    rintro _ B_ ⟨rfl, hB_⟩
    obtain rfl := hB_.symm
    refine s_val rfl (v_not rfl) (x_nil (n_then ?_))
    refine x_if rfl ?_ ?_
    · intro c1
      refine x_seq (x_region (s_val rfl (v_assign rfl) (x_nil (n_then (x_ret (r_then (x_done (.inl rfl) (.cons (r_tmp rfl) .nil) ?_)))))))
      exact ⟨_, ⟨rfl, rfl⟩, inferInstance⟩
    · intro c1
      exact absurd (by rw [ho']; decide) c1
end Go.Proofs.YtncegikenkpcmaaGreat
