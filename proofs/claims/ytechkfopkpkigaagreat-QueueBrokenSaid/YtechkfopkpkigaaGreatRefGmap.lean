/-
  The reference of layer 15.
-/
import Derived.Test.YtechkfopkpkigaaGreatGmap
namespace Go.Proofs.YtechkfopkpkigaaGreat
open Go.RowKit
set_option linter.unusedSimpArgs false
set_option linter.unusedVariables false
set_option maxRecDepth 20000

def thV (p : Pl) : Value := .bool (decide (p ≠ (0, 0)))
abbrev rgO (pg : List Pl) : Obj := cob (pg.map thV ++ pg.flatMap plV) 159
theorem th_row {pg : List Pl} {sp : List Value} {i : Nat} (hi : i < pg.length) : ((pg.map thV ++ sp).drop (i * 1)).take 1 = [thV (plAt pg i)] := by
  rw [Nat.mul_one, List.drop_append_of_le_length (by simp; omega), ← List.map_drop, List.drop_eq_getElem_cons hi, List.map_cons, List.cons_append, List.take_succ_cons, List.take_zero]
  simp [plAt, List.getD, hi]
theorem rp_row {pg : List Pl} {i : Nat} (h : pg.length = 12) (hi : i < 12) : ((pg.map thV ++ pg.flatMap plV).drop (12 + i * 2)).take 2 = plV (plAt pg i) := by
  rw [← List.drop_drop, List.drop_left' (by simpa using h)]
  have := pg_row (pg := pg) (sp := []) (n := i) (by omega)
  rwa [List.append_nil] at this
theorem setR_back : ∀ (vs a b : List Value) (off : Nat), setR (a ++ b) (a.length + off) vs = a ++ setR b off vs
  | [], a, b, off => rfl
  | v :: vs, a, b, off => by
    rw [setR, setR, List.set_append_right _ _ (by omega), show a.length + off - a.length = off by omega, show a.length + off + 1 = a.length + (off + 1) by omega, setR_back vs]
theorem rg_set {pg : List Pl} {i : Nat} {p : Pl} (h : pg.length = 12) (hi : i < 12) (hp : okPl p = true) : setR ((pg.map thV ++ pg.flatMap plV).set (i * 1) (.bool true)) (12 + i * 2) (plV p) = (pg.set i p).map thV ++ (pg.set i p).flatMap plV := by
  have ht : thV p = .bool true := by
    have := okPl_iff.1 hp
    simp only [thV, Value.bool.injEq, decide_eq_true_eq]
    intro e; rw [e] at this; simp at this
  rw [Nat.mul_one, List.set_append_left _ _ (by simp; omega), ← ht, ← List.map_set]
  have e := setR_back (plV p) ((pg.set i p).map thV) (pg.flatMap plV) (i * 2)
  rw [show ((pg.set i p).map thV).length = 12 by simp [h]] at e
  rw [e]
  have := pg_set (pg := pg) (sp := []) (n := i) (p := p) (by omega)
  rw [List.append_nil, List.append_nil] at this
  rw [this]
theorem rgIs_spec (W0 : World) (R : List HP) (n : Int) : Spec Tryz.prog W0 168 [.int .i64 n] R (fun v B => v = .bool (isP n) ∧ B = R) := by
  refine spec_body Tryz.func168 Tryz.ntmps168 rfl rfl ?_
  refine x_seq ?_
  refine x_region ?_
  refine s_val rfl (v_assign rfl) ?_
  refine x_nil ?_
  refine n_then ?_
  refine x_seq ?_
  refine x_region ?_
  refine s_val rfl (v_move rfl) ?_
  refine s_val rfl (v_geq rfl rfl) ?_
  refine s_val rfl (v_move rfl) ?_
  refine s_and rfl rfl rfl ?_ ?_
  · intro g1_3
    refine s_val rfl (v_move rfl) ?_
    refine s_yes rfl rfl ?_
    refine s_val rfl (v_lss rfl rfl) ?_
    refine s_val rfl (v_pick_t rfl rfl) ?_
    refine s_val rfl (v_assign rfl) ?_
    refine x_nil ?_
    refine n_then ?_
    refine x_ret ?_
    refine x_done (.inl rfl) (.cons (r_tmp rfl) .nil) ?_
    refine ⟨_, ⟨?_, rfl⟩, inferInstance⟩
    refine congrArg Value.bool ?_
    rw [Bool.eq_iff_iff]; simp only [isP, decide_eq_true_eq, Bool.false_eq_true, false_iff]; omega
  · intro g1_3
    refine s_no rfl rfl rfl rfl ?_
    refine s_val rfl (v_pick_f rfl rfl) ?_
    refine s_val rfl (v_assign rfl) ?_
    refine x_nil ?_
    refine n_then ?_
    refine x_ret ?_
    refine x_done (.inl rfl) (.cons (r_tmp rfl) .nil) ?_
    refine ⟨_, ⟨?_, rfl⟩, inferInstance⟩
    refine congrArg Value.bool ?_
    rw [Bool.eq_iff_iff]; simp only [isP, decide_eq_true_eq, Bool.false_eq_true, false_iff]; omega
theorem rgSet_spec (W0 : World) (R : List HP) (b : Nat) (pg : List Pl) (h : Pgs pg) (n : Int) (p : Pl) : Spec Tryz.prog W0 89 [.pointer (some ⟨b, 0, none⟩), .int .i64 n, .agg (plV p).toArray] (pt b (rgO pg) :: R)
    (fun v B => v = .int .i64 (setE pg n p) ∧ B = pt b (rgO (setP pg n p)) :: R) := by
  have hl := h.len
  refine spec_body Tryz.func89 Tryz.ntmps89 rfl rfl ?_
  refine x_seq ?_
  refine x_region ?_
  refine s_do rfl (d_boxA rfl) ?_
  rintro _ _ ⟨b1, rfl, rfl⟩
  refine s_val rfl (v_assign rfl) ?_
  refine x_nil ?_
  refine n_then ?_
  refine x_seq ?_
  refine x_seq ?_
  refine x_region ?_
  refine s_val rfl (v_move rfl) ?_
  refine s_do rfl (d_call Tryz.call168 rfl (rgIs_spec W0 _ n)) ?_
  rintro _ B_ ⟨rfl, hB_⟩
  obtain rfl := hB_.symm
  refine s_val rfl (v_not rfl) ?_
  refine s_val rfl (v_move rfl) ?_
  refine s_or rfl rfl rfl ?_ ?_
  · intro g1_4
    refine s_no rfl rfl rfl rfl ?_
    refine s_no rfl rfl rfl rfl ?_
    refine s_val rfl (v_pick_t rfl rfl) ?_
    refine s_val rfl (v_move rfl) ?_
    refine s_no rfl rfl rfl rfl ?_
    refine s_no rfl rfl rfl rfl ?_
    refine s_no rfl rfl rfl rfl ?_
    refine s_val rfl (v_pick_t rfl rfl) ?_
    refine s_val rfl (v_move rfl) ?_
    refine s_no rfl rfl rfl rfl ?_
    refine s_no rfl rfl rfl rfl ?_
    refine s_no rfl rfl rfl rfl ?_
    refine s_val rfl (v_pick_t rfl rfl) ?_
    refine s_val rfl (v_move rfl) ?_
    refine s_no rfl rfl rfl rfl ?_
    refine s_no rfl rfl rfl rfl ?_
    refine s_no rfl rfl rfl rfl ?_
    refine s_val rfl (v_pick_t rfl rfl) ?_
    refine x_nil ?_
    refine n_then ?_
    refine x_ift rfl ?_
    refine x_seq ?_
    refine x_region ?_
    refine s_val rfl (v_assign rfl) ?_
    refine x_nil ?_
    refine n_then ?_
    refine x_ret ?_
    refine r_then ?_
    refine x_done (.inl rfl) (.cons (r_tmp rfl) .nil) ?_
    have he : setE pg n p = 1 := by
      unfold setE; rw [if_neg]
      intro hk
      have := okPl_iff.1 hk.2
      first
        | omega
        | (simp [hk.1] at g1_4)
    exact ⟨_, ⟨by simp [pack, he], by rw [setP, he, if_neg (by decide)]⟩, inferInstance⟩
  · intro g1_4
    refine s_val rfl (v_fieldAddr rfl Tryz.underlying156 rfl Tryz.sizeOf3 rfl (by first | exact Nat.zero_add _ | rfl)) ?_
    refine s_yes rfl rfl ?_
    refine s_val rfl (v_load Tryz.isAgg3 rfl (cell_own rfl)) ?_
    refine s_yes rfl rfl ?_
    refine s_val rfl (v_lss rfl rfl) ?_
    refine s_val rfl (v_pick_f rfl rfl) ?_
    refine s_val rfl (v_move rfl) ?_
    refine s_or rfl rfl rfl ?_ ?_
    · intro g1_9
      refine s_no rfl rfl rfl rfl ?_
      refine s_no rfl rfl rfl rfl ?_
      refine s_val rfl (v_pick_t rfl rfl) ?_
      refine s_val rfl (v_move rfl) ?_
      refine s_no rfl rfl rfl rfl ?_
      refine s_no rfl rfl rfl rfl ?_
      refine s_no rfl rfl rfl rfl ?_
      refine s_val rfl (v_pick_t rfl rfl) ?_
      refine s_val rfl (v_move rfl) ?_
      refine s_no rfl rfl rfl rfl ?_
      refine s_no rfl rfl rfl rfl ?_
      refine s_no rfl rfl rfl rfl ?_
      refine s_val rfl (v_pick_t rfl rfl) ?_
      refine x_nil ?_
      refine n_then ?_
      refine x_ift rfl ?_
      refine x_seq ?_
      refine x_region ?_
      refine s_val rfl (v_assign rfl) ?_
      refine x_nil ?_
      refine n_then ?_
      refine x_ret ?_
      refine r_then ?_
      refine x_done (.inl rfl) (.cons (r_tmp rfl) .nil) ?_
      have he : setE pg n p = 1 := by
        unfold setE; rw [if_neg]
        intro hk
        have := okPl_iff.1 hk.2
        first
          | omega
          | (simp [hk.1] at g1_4)
      exact ⟨_, ⟨by simp [pack, he], by rw [setP, he, if_neg (by decide)]⟩, inferInstance⟩
    · intro g1_9
      refine s_val rfl (v_fieldAddr rfl Tryz.underlying156 rfl Tryz.sizeOf3 rfl (by first | exact Nat.zero_add _ | rfl)) ?_
      refine s_yes rfl rfl ?_
      refine s_val rfl (v_load Tryz.isAgg3 rfl (cell_own rfl)) ?_
      refine s_yes rfl rfl ?_
      refine s_val rfl (v_geq rfl rfl) ?_
      refine s_val rfl (v_pick_f rfl rfl) ?_
      refine s_val rfl (v_move rfl) ?_
      refine s_or rfl rfl rfl ?_ ?_
      · intro g1_14
        refine s_no rfl rfl rfl rfl ?_
        refine s_no rfl rfl rfl rfl ?_
        refine s_val rfl (v_pick_t rfl rfl) ?_
        refine s_val rfl (v_move rfl) ?_
        refine s_no rfl rfl rfl rfl ?_
        refine s_no rfl rfl rfl rfl ?_
        refine s_no rfl rfl rfl rfl ?_
        refine s_val rfl (v_pick_t rfl rfl) ?_
        refine x_nil ?_
        refine n_then ?_
        refine x_ift rfl ?_
        refine x_seq ?_
        refine x_region ?_
        refine s_val rfl (v_assign rfl) ?_
        refine x_nil ?_
        refine n_then ?_
        refine x_ret ?_
        refine r_then ?_
        refine x_done (.inl rfl) (.cons (r_tmp rfl) .nil) ?_
        have he : setE pg n p = 1 := by
          unfold setE; rw [if_neg]
          intro hk
          have := okPl_iff.1 hk.2
          first
            | omega
            | (simp [hk.1] at g1_4)
        exact ⟨_, ⟨by simp [pack, he], by rw [setP, he, if_neg (by decide)]⟩, inferInstance⟩
      · intro g1_14
        refine s_val rfl (v_fieldAddr rfl Tryz.underlying156 rfl Tryz.sizeOf3 rfl (by first | exact Nat.zero_add _ | rfl)) ?_
        refine s_yes rfl rfl ?_
        refine s_val rfl (v_load Tryz.isAgg3 rfl (cell_own rfl)) ?_
        refine s_yes rfl rfl ?_
        refine s_val rfl (v_lss rfl rfl) ?_
        refine s_val rfl (v_pick_f rfl rfl) ?_
        refine s_val rfl (v_move rfl) ?_
        refine s_or rfl rfl rfl ?_ ?_
        · intro g1_19
          refine s_no rfl rfl rfl rfl ?_
          refine s_no rfl rfl rfl rfl ?_
          refine s_val rfl (v_pick_t rfl rfl) ?_
          refine x_nil ?_
          refine n_then ?_
          refine x_ift rfl ?_
          refine x_seq ?_
          refine x_region ?_
          refine s_val rfl (v_assign rfl) ?_
          refine x_nil ?_
          refine n_then ?_
          refine x_ret ?_
          refine r_then ?_
          refine x_done (.inl rfl) (.cons (r_tmp rfl) .nil) ?_
          have he : setE pg n p = 1 := by
            unfold setE; rw [if_neg]
            intro hk
            have := okPl_iff.1 hk.2
            first
              | omega
              | (simp [hk.1] at g1_4)
          exact ⟨_, ⟨by simp [pack, he], by rw [setP, he, if_neg (by decide)]⟩, inferInstance⟩
        · intro g1_19
          refine s_val rfl (v_fieldAddr rfl Tryz.underlying156 rfl Tryz.sizeOf3 rfl (by first | exact Nat.zero_add _ | rfl)) ?_
          refine s_yes rfl rfl ?_
          refine s_val rfl (v_load Tryz.isAgg3 rfl (cell_own rfl)) ?_
          refine s_yes rfl rfl ?_
          refine s_val rfl (v_gtr rfl rfl) ?_
          refine s_val rfl (v_pick_f rfl rfl) ?_
          refine x_nil ?_
          refine n_then ?_
          refine x_if rfl ?_ ?_
          · intro c1
            refine x_seq ?_
            refine x_region ?_
            refine s_val rfl (v_assign rfl) ?_
            refine x_nil ?_
            refine n_then ?_
            refine x_ret ?_
            refine r_then ?_
            refine x_done (.inl rfl) (.cons (r_tmp rfl) .nil) ?_
            have he : setE pg n p = 1 := by
              unfold setE; rw [if_neg]
              intro hk
              have := okPl_iff.1 hk.2
              first
                | omega
                | (simp [hk.1] at g1_4)
            exact ⟨_, ⟨by simp [pack, he], by rw [setP, he, if_neg (by decide)]⟩, inferInstance⟩
          · intro c1
            have hp : isP n = true := by simpa using g1_4
            have ho : okPl p = true := okPl_iff.2 (by omega)
            obtain ⟨i, hni, hi⟩ := isP_nat hp
            have htr := th_row (pg := pg) (sp := pg.flatMap plV) (i := i) (by omega)
            have hth : thereB pg n = decide (plAt pg i ≠ (0, 0)) := by rw [thereB, hp]; simp [hni]
            refine x_skip ?_
            refine n_then ?_
            refine x_seq ?_
            refine x_seq ?_
            refine x_region ?_
            refine s_val rfl (v_move rfl) ?_
            refine s_val rfl (v_move rfl) ?_
            refine s_val rfl (v_nilCheck rfl) ?_
            refine s_val rfl (v_fieldAddr rfl Tryz.underlying159 rfl Tryz.sizeOf117 rfl (by first | exact Nat.zero_add _ | rfl)) ?_
            refine s_val rfl (v_idxArr Tryz.underlying117 Tryz.sizeOf4 rfl rfl hni hi (by first | exact Nat.zero_add _ | rfl)) ?_
            refine s_val rfl (v_load Tryz.isAgg4 rfl (cells_part (vs := [thV (plAt pg i)]) htr rfl 0 _ rfl)) ?_
            refine x_nil ?_
            refine n_then ?_
            refine x_if rfl ?_ ?_
            · intro c3
              have ht : thereB pg n = true := by rw [hth]; simpa using c3
              refine x_seq ?_
              refine x_region ?_
              refine s_val rfl (v_assign rfl) ?_
              refine x_nil ?_
              refine n_then ?_
              refine x_ret ?_
              refine r_then ?_
              refine x_done (.inl rfl) (.cons (r_tmp rfl) .nil) ?_
              have he : setE pg n p = 5 := by unfold setE; rw [if_pos ⟨hp, ho⟩, if_pos ht]
              exact ⟨_, ⟨by simp [pack, he], by rw [setP, he, if_neg (by decide)]⟩, inferInstance⟩
            · intro c3
              have ht : thereB pg n = false := by rw [hth]; simpa using c3
              have he : setE pg n p = 0 := by simp [setE, hp, ho, ht]
              refine x_skip ?_
              refine n_then ?_
              refine x_seq ?_
              refine x_region ?_
              refine s_val rfl (v_move rfl) ?_
              refine s_val rfl (v_move rfl) ?_
              refine s_val rfl (v_nilCheck rfl) ?_
              refine s_val rfl (v_fieldAddr rfl Tryz.underlying159 rfl Tryz.sizeOf117 rfl (by first | exact Nat.zero_add _ | rfl)) ?_
              refine s_val rfl (v_idxArr Tryz.underlying117 Tryz.sizeOf4 rfl rfl hni hi (by first | exact Nat.zero_add _ | rfl)) ?_
              refine s_do0 (d_store Tryz.sizeOf4 rfl rfl rfl (by rw [List.length_append, List.length_map, flat_len plV_len]; omega) rfl) ?_
              rintro _ _ rfl
              refine x_nil ?_
              refine n_then ?_
              refine x_seq ?_
              refine x_draw [(b1, 0, _)] 7 mixed rfl (sc_own sc_end) (fun hS => ?_)
              refine d_take 0 rfl rfl (by kernel_rfl) (by kernel_rfl) (by kernel_rfl) rfl hS (v_move rfl) ?_
              refine d_take 1 rfl rfl (by kernel_rfl) (by kernel_rfl) (by kernel_rfl) rfl hS (v_move rfl) ?_
              refine d_take 2 rfl rfl (by kernel_rfl) (by kernel_rfl) (by kernel_rfl) rfl hS (v_loadAgg Tryz.isAgg156 Tryz.sizeOf156 rfl (cells_sc (k := 0) rfl) rfl) ?_
              refine d_take 3 rfl rfl (by kernel_rfl) (by kernel_rfl) (by kernel_rfl) rfl hS (v_nilCheck rfl) ?_
              refine d_take 4 rfl rfl (by kernel_rfl) (by kernel_rfl) (by kernel_rfl) rfl hS (v_fieldAddr rfl Tryz.underlying159 rfl Tryz.sizeOf157 rfl (by first | exact Nat.zero_add _ | rfl)) ?_
              refine d_take 5 rfl rfl (by kernel_rfl) (by kernel_rfl) (by kernel_rfl) rfl hS (v_idxArr Tryz.underlying157 Tryz.sizeOf156 rfl rfl hni hi (by first | exact Nat.zero_add _ | rfl)) ?_
              refine d_one 6 (by kernel_rfl) rfl rfl (d_storeAgg Tryz.sizeOf156 rfl rfl rfl rfl (by rw [List.length_set, List.length_append, List.length_map, flat_len plV_len]; omega) (rg_set hl hi ho)) rfl ?_; clear hS
              rintro _ _ rfl
              refine ⟨(sc_own sc_end), fun hS => ?_⟩
              refine d_done (by kernel_rfl) ?_; clear hS
              refine n_then ?_
              refine x_seq ?_
              refine x_region ?_
              refine s_val rfl (v_assign rfl) ?_
              refine x_nil ?_
              refine n_then ?_
              refine x_ret ?_
              refine x_done (.inl rfl) (.cons (r_tmp rfl) .nil) ?_
              rw [show setP pg n p = pg.set i p by rw [setP, if_pos he, hni, Int.toNat_natCast]]
              exact ⟨_, ⟨by simp [pack, he], rfl⟩, inferInstance⟩

theorem rgGet_spec (W0 : World) (R : List HP) (b : Nat) (pg : List Pl) (h : Pgs pg) (n : Int) : Spec Tryz.prog W0 201 [.pointer (some ⟨b, 0, none⟩), .int .i64 n] (pt b (rgO pg) :: R)
    (fun v B => v = .tuple #[.agg (plV (gGot pg n)).toArray, .bool (thereB pg n)] ∧ B = pt b (rgO pg) :: R) := by
  have hl := h.len
  refine spec_body Tryz.func201 Tryz.ntmps201 rfl rfl ?_
  refine x_seq ?_
  refine x_region ?_
  refine s_do rfl (d_allocA Tryz.zeroValue156) ?_
  rintro _ _ ⟨b1, rfl, rfl⟩
  refine s_val rfl (v_assign rfl) ?_
  refine x_nil ?_
  refine n_then ?_
  refine x_seq ?_
  refine x_seq ?_
  refine x_region ?_
  refine s_val rfl (v_move rfl) ?_
  refine s_do rfl (d_call Tryz.call168 rfl (rgIs_spec W0 _ n)) ?_
  rintro _ B_ ⟨rfl, hB_⟩
  obtain rfl := hB_.symm
  refine s_val rfl (v_not rfl) ?_
  refine x_nil ?_
  refine n_then ?_
  refine x_if rfl ?_ ?_
  · intro c1
    refine x_seq ?_
    refine x_region ?_
    refine s_val rfl (v_build Tryz.underlying156 Tryz.zeroValue156 (sized_cons Tryz.sizeOf3 (sized_cons Tryz.sizeOf3 sized_nil)) fil_nil) ?_
    refine s_do0 (d_storeAll Tryz.sizeOf156 rfl rfl rfl rfl rfl) ?_
    rintro _ _ rfl
    refine s_val rfl (v_assign rfl) ?_
    refine x_nil ?_
    refine n_then ?_
    refine x_ret ?_
    refine r_then ?_
    refine x_done (.inl rfl) (.cons (r_all Tryz.isAgg156 Tryz.sizeOf156 rfl rfl) (.cons (r_tmp rfl) .nil)) ?_
    refine ⟨_, ⟨?_, rfl⟩, inferInstance⟩
    have ht : thereB pg n = false := by simp [thereB, show isP n = false by simpa using c1]
    simp [pack, gGot, ht]
  · intro c1
    have hp : isP n = true := by simpa using c1
    obtain ⟨i, hni, hi⟩ := isP_nat hp
    have htr := th_row (pg := pg) (sp := pg.flatMap plV) (i := i) (by omega)
    have hpr := rp_row (pg := pg) hl hi
    refine x_skip ?_
    refine n_then ?_
    refine x_seq ?_
    refine x_draw [(b, 12 + i * 2, plV (plAt pg i)), (b, i * 1, [thV (plAt pg i)])] 14 mixed rfl (sc_cons (cells_part hpr rfl) (sc_cons (cells_part htr rfl) sc_end)) (fun hS => ?_)
    refine d_take 0 rfl rfl (by kernel_rfl) (by kernel_rfl) (by kernel_rfl) rfl hS (v_move rfl) ?_
    refine d_take 1 rfl rfl (by kernel_rfl) (by kernel_rfl) (by kernel_rfl) rfl hS (v_move rfl) ?_
    refine d_take 2 rfl rfl (by kernel_rfl) (by kernel_rfl) (by kernel_rfl) rfl hS (v_nilCheck rfl) ?_
    refine d_take 3 rfl rfl (by kernel_rfl) (by kernel_rfl) (by kernel_rfl) rfl hS (v_fieldAddr rfl Tryz.underlying159 rfl Tryz.sizeOf157 rfl (by first | exact Nat.zero_add _ | rfl)) ?_
    refine d_take 4 rfl rfl (by kernel_rfl) (by kernel_rfl) (by kernel_rfl) rfl hS (v_idxArr Tryz.underlying157 Tryz.sizeOf156 rfl rfl hni hi (by first | exact Nat.zero_add _ | rfl)) ?_
    refine d_take 5 rfl rfl (by kernel_rfl) (by kernel_rfl) (by kernel_rfl) rfl hS (v_loadAgg Tryz.isAgg156 Tryz.sizeOf156 rfl (cells_sc (k := 0) rfl) rfl) ?_
    refine d_take 6 rfl rfl (by kernel_rfl) (by kernel_rfl) (by kernel_rfl) rfl hS (v_move rfl) ?_
    refine d_take 7 rfl rfl (by kernel_rfl) (by kernel_rfl) (by kernel_rfl) rfl hS (v_move rfl) ?_
    refine d_take 8 rfl rfl (by kernel_rfl) (by kernel_rfl) (by kernel_rfl) rfl hS (v_nilCheck rfl) ?_
    refine d_take 9 rfl rfl (by kernel_rfl) (by kernel_rfl) (by kernel_rfl) rfl hS (v_fieldAddr rfl Tryz.underlying159 rfl Tryz.sizeOf117 rfl (by first | exact Nat.zero_add _ | rfl)) ?_
    refine d_take 10 rfl rfl (by kernel_rfl) (by kernel_rfl) (by kernel_rfl) rfl hS (v_idxArr Tryz.underlying117 Tryz.sizeOf4 rfl rfl hni hi (by first | exact Nat.zero_add _ | rfl)) ?_
    refine d_take 11 rfl rfl (by kernel_rfl) (by kernel_rfl) (by kernel_rfl) rfl hS (v_load Tryz.isAgg4 rfl (cell_sc1 (k := 1) rfl)) ?_
    refine d_one 12 (by kernel_rfl) rfl rfl (d_storeAll Tryz.sizeOf156 rfl rfl rfl rfl rfl) rfl ?_; clear hS
    rintro _ _ rfl
    refine ⟨(sc_cons (cells_part hpr rfl) (sc_cons (cells_part htr rfl) sc_end)), fun hS => ?_⟩
    refine d_take 13 rfl rfl (by kernel_rfl) (by kernel_rfl) (by kernel_rfl) rfl hS (v_assign rfl) ?_
    refine d_done (by kernel_rfl) ?_; clear hS
    refine n_then ?_
    refine x_ret ?_
    refine x_done (.inl rfl) (.cons (r_all Tryz.isAgg156 Tryz.sizeOf156 rfl rfl) (.cons (r_tmp rfl) .nil)) ?_
    refine ⟨_, ⟨?_, rfl⟩, inferInstance⟩
    subst hni
    by_cases hz : plAt pg i = (0, 0)
    · have ht : thereB pg i = false := by simp [thereB, hz]
      simp [pack, gGot, ht, hz, thV]
    · have ht : thereB pg i = true := by simp [thereB, hz, hp]
      simp [pack, gGot, ht, hz, thV]
theorem rgAllows_spec (W0 : World) (R : List HP) (b : Nat) (pg : List Pl) (h : Pgs pg) (n kind : Int) : Spec Tryz.prog W0 200 [.pointer (some ⟨b, 0, none⟩), .int .i64 n, .int .i64 kind] (pt b (rgO pg) :: R)
    (fun v B => v = .int .i64 (alwE pg n kind) ∧ B = pt b (rgO pg) :: R) := by
  refine spec_body Tryz.func200 Tryz.ntmps200 rfl rfl ?_
  refine x_seq ?_
  refine x_region ?_
  refine s_val rfl (v_assign rfl) ?_
  refine x_nil ?_
  refine n_then ?_
  refine x_seq ?_
  refine x_region ?_
  refine s_val rfl (v_move rfl) ?_
  refine s_val rfl (v_move rfl) ?_
  refine s_do rfl (d_call1 Tryz.call201 rfl (rgGet_spec W0 _ b pg h n)) ?_
  rintro _ B_ ⟨rfl, hB_⟩
  obtain rfl := hB_.symm
  refine s_val rfl (v_move rfl) ?_
  refine s_val rfl (v_extract rfl rfl) ?_
  refine s_val rfl (v_extract rfl rfl) ?_
  refine s_do rfl (d_allocA Tryz.zeroValue156) ?_
  rintro _ _ ⟨b1, rfl, rfl⟩
  refine s_do0 (d_storeAll Tryz.sizeOf156 rfl rfl rfl rfl rfl) ?_
  rintro _ _ rfl
  refine s_val rfl (v_assign rfl) ?_
  refine x_nil ?_
  refine n_then ?_
  refine x_seq ?_
  refine x_seq ?_
  refine x_region ?_
  refine s_val rfl (v_move rfl) ?_
  refine s_val rfl (v_not rfl) ?_
  refine x_nil ?_
  refine n_then ?_
  refine x_if rfl ?_ ?_
  · intro c2
    refine x_seq ?_
    refine x_region ?_
    refine s_val rfl (v_assign rfl) ?_
    refine x_nil ?_
    refine n_then ?_
    refine x_ret ?_
    refine r_then ?_
    refine x_done (.inl rfl) (.cons (r_tmp rfl) .nil) ?_
    refine ⟨_, ⟨?_, rfl⟩, inferInstance⟩
    have ht : thereB pg n = false := by simpa using c2
    simp [pack, alwE, ht]
  · intro c2
    have ht : thereB pg n = true := by simpa using c2
    have hg := okPl_iff.1 (gGot_ok h ht)
    have hge : gGot pg n = plAt pg n.toNat := by simp [gGot, ht]
    refine x_skip ?_
    refine n_then ?_
    refine x_seq ?_
    refine x_seq ?_
    refine x_region ?_
    refine s_val rfl (v_move rfl) ?_
    refine s_val rfl (v_eql rfl rfl) ?_
    refine s_val rfl (v_move rfl) ?_
    refine s_and rfl rfl rfl ?_ ?_
    · intro g4_3
      refine s_val rfl (v_move rfl) ?_
      refine s_yes rfl rfl ?_
      refine s_val rfl (v_lss rfl rfl) ?_
      refine s_val rfl (v_pick_t rfl rfl) ?_
      refine s_val rfl (v_move rfl) ?_
      refine s_or rfl rfl rfl ?_ ?_
      · intro g4_7
        refine s_no rfl rfl rfl rfl ?_
        refine s_no rfl rfl rfl rfl ?_
        refine s_nou rfl rfl rfl ?_
        refine s_nou rfl rfl rfl ?_
        refine s_nou rfl rfl rfl ?_
        refine s_nou rfl rfl rfl ?_
        refine s_no rfl rfl rfl rfl ?_
        refine s_val rfl (v_pick_t rfl rfl) ?_
        refine s_val rfl (v_move rfl) ?_
        refine s_no rfl rfl rfl rfl ?_
        refine s_no rfl rfl rfl rfl ?_
        refine s_no rfl rfl rfl rfl ?_
        refine s_nou rfl rfl rfl ?_
        refine s_nou rfl rfl rfl ?_
        refine s_nou rfl rfl rfl ?_
        refine s_no rfl rfl rfl rfl ?_
        refine s_val rfl (v_pick_t rfl rfl) ?_
        refine x_nil ?_
        refine n_then ?_
        refine x_ift rfl ?_
        refine x_seq ?_
        refine x_region ?_
        refine s_val rfl (v_assign rfl) ?_
        refine x_nil ?_
        refine n_then ?_
        refine x_ret ?_
        refine r_then ?_
        refine x_done (.inl rfl) (.cons (r_tmp rfl) .nil) ?_
        refine ⟨_, ⟨?_, rfl⟩, inferInstance⟩
        have hm : mayB n (plAt pg n.toNat) kind = true := by
          rw [← hge]; simp only [mayB, decide_eq_true_eq]
          simp only [Int.tmod_eq_emod_of_nonneg (show 0 ≤ (gGot pg n).2 by omega)] at *
          omega
        simp [pack, alwE, ht, hm]
      · intro g4_7
        refine s_val rfl (v_move rfl) ?_
        refine s_yes rfl rfl ?_
        refine s_val rfl (v_eql rfl rfl) ?_
        refine s_yes rfl rfl ?_
        refine s_val rfl (v_move rfl) ?_
        refine s_and rfl rfl rfl ?_ ?_
        · intro g4_10
          refine s_val rfl (v_fieldAddr rfl Tryz.underlying156 rfl Tryz.sizeOf3 rfl (by first | exact Nat.zero_add _ | rfl)) ?_
          refine s_yes rfl rfl ?_
          refine s_val rfl (v_load Tryz.isAgg3 rfl (cell_own rfl)) ?_
          refine s_yes rfl rfl ?_
          refine s_val rfl (v_rem rfl rfl (by decide) rfl) ?_
          refine s_yes rfl rfl ?_
          refine s_val rfl (v_eql rfl rfl) ?_
          refine s_yes rfl rfl ?_
          refine s_val rfl (v_pick_t rfl rfl) ?_
          refine s_val rfl (v_pick_f rfl rfl) ?_
          refine s_val rfl (v_move rfl) ?_
          refine s_or rfl rfl rfl ?_ ?_
          · intro g4_17
            refine s_no rfl rfl rfl rfl ?_
            refine s_no rfl rfl rfl rfl ?_
            refine s_nou rfl rfl rfl ?_
            refine s_nou rfl rfl rfl ?_
            refine s_nou rfl rfl rfl ?_
            refine s_no rfl rfl rfl rfl ?_
            refine s_val rfl (v_pick_t rfl rfl) ?_
            refine x_nil ?_
            refine n_then ?_
            refine x_ift rfl ?_
            refine x_seq ?_
            refine x_region ?_
            refine s_val rfl (v_assign rfl) ?_
            refine x_nil ?_
            refine n_then ?_
            refine x_ret ?_
            refine r_then ?_
            refine x_done (.inl rfl) (.cons (r_tmp rfl) .nil) ?_
            refine ⟨_, ⟨?_, rfl⟩, inferInstance⟩
            have hm : mayB n (plAt pg n.toNat) kind = true := by
              rw [← hge]; simp only [mayB, decide_eq_true_eq]
              simp only [Int.tmod_eq_emod_of_nonneg (show 0 ≤ (gGot pg n).2 by omega)] at *
              omega
            simp [pack, alwE, ht, hm]
          · intro g4_17
            refine s_val rfl (v_move rfl) ?_
            refine s_yes rfl rfl ?_
            refine s_val rfl (v_eql rfl rfl) ?_
            refine s_yes rfl rfl ?_
            refine s_val rfl (v_move rfl) ?_
            refine s_and rfl rfl rfl ?_ ?_
            · intro g4_20
              refine s_val rfl (v_fieldAddr rfl Tryz.underlying156 rfl Tryz.sizeOf3 rfl (by first | exact Nat.zero_add _ | rfl)) ?_
              refine s_yes rfl rfl ?_
              refine s_val rfl (v_load Tryz.isAgg3 rfl (cell_own rfl)) ?_
              refine s_yes rfl rfl ?_
              refine s_val rfl (v_geq rfl rfl) ?_
              refine s_yes rfl rfl ?_
              refine s_val rfl (v_pick_t rfl rfl) ?_
              refine s_val rfl (v_pick_f rfl rfl) ?_
              refine x_nil ?_
              refine n_then ?_
              refine x_if rfl ?_ ?_
              · intro c4
                refine x_seq ?_
                refine x_region ?_
                refine s_val rfl (v_assign rfl) ?_
                refine x_nil ?_
                refine n_then ?_
                refine x_ret ?_
                refine r_then ?_
                refine x_done (.inl rfl) (.cons (r_tmp rfl) .nil) ?_
                refine ⟨_, ⟨?_, rfl⟩, inferInstance⟩
                have hm : mayB n (plAt pg n.toNat) kind = true := by
                  rw [← hge]; simp only [mayB, decide_eq_true_eq]
                  simp only [Int.tmod_eq_emod_of_nonneg (show 0 ≤ (gGot pg n).2 by omega)] at *
                  omega
                simp [pack, alwE, ht, hm]
              · intro c4
                refine x_skip ?_
                refine n_then ?_
                refine x_seq ?_
                refine x_region ?_
                refine s_val rfl (v_assign rfl) ?_
                refine x_nil ?_
                refine n_then ?_
                refine x_ret ?_
                refine x_done (.inl rfl) (.cons (r_tmp rfl) .nil) ?_
                refine ⟨_, ⟨?_, rfl⟩, inferInstance⟩
                have hm : mayB n (plAt pg n.toNat) kind = false := by
                  rw [← hge, ← Bool.not_eq_true]; simp only [mayB, decide_eq_true_eq]
                  simp only [Int.tmod_eq_emod_of_nonneg (show 0 ≤ (gGot pg n).2 by omega)] at *
                  omega
                simp [pack, alwE, ht, hm]
            · intro g4_20
              refine s_no rfl rfl rfl rfl ?_
              refine s_no rfl rfl rfl rfl ?_
              refine s_yes rfl rfl ?_
              refine s_val rfl (v_pick_f rfl rfl) ?_
              refine s_val rfl (v_pick_f rfl rfl) ?_
              refine x_nil ?_
              refine n_then ?_
              refine x_iff rfl ?_
              refine x_skip ?_
              refine n_then ?_
              refine x_seq ?_
              refine x_region ?_
              refine s_val rfl (v_assign rfl) ?_
              refine x_nil ?_
              refine n_then ?_
              refine x_ret ?_
              refine x_done (.inl rfl) (.cons (r_tmp rfl) .nil) ?_
              refine ⟨_, ⟨?_, rfl⟩, inferInstance⟩
              have hm : mayB n (plAt pg n.toNat) kind = false := by
                rw [← hge, ← Bool.not_eq_true]; simp only [mayB, decide_eq_true_eq]
                simp only [Int.tmod_eq_emod_of_nonneg (show 0 ≤ (gGot pg n).2 by omega)] at *
                omega
              simp [pack, alwE, ht, hm]
        · intro g4_10
          refine s_no rfl rfl rfl rfl ?_
          refine s_no rfl rfl rfl rfl ?_
          refine s_no rfl rfl rfl rfl ?_
          refine s_yes rfl rfl ?_
          refine s_val rfl (v_pick_f rfl rfl) ?_
          refine s_val rfl (v_pick_f rfl rfl) ?_
          refine s_val rfl (v_move rfl) ?_
          refine s_yes rfl rfl ?_
          refine s_val rfl (v_move rfl) ?_
          refine s_yes rfl rfl ?_
          refine s_val rfl (v_eql rfl rfl) ?_
          refine s_yes rfl rfl ?_
          refine s_val rfl (v_move rfl) ?_
          refine s_and rfl rfl rfl ?_ ?_
          · intro g4_20
            refine s_val rfl (v_fieldAddr rfl Tryz.underlying156 rfl Tryz.sizeOf3 rfl (by first | exact Nat.zero_add _ | rfl)) ?_
            refine s_yes rfl rfl ?_
            refine s_val rfl (v_load Tryz.isAgg3 rfl (cell_own rfl)) ?_
            refine s_yes rfl rfl ?_
            refine s_val rfl (v_geq rfl rfl) ?_
            refine s_yes rfl rfl ?_
            refine s_val rfl (v_pick_t rfl rfl) ?_
            refine s_val rfl (v_pick_f rfl rfl) ?_
            refine x_nil ?_
            refine n_then ?_
            refine x_if rfl ?_ ?_
            · intro c4
              refine x_seq ?_
              refine x_region ?_
              refine s_val rfl (v_assign rfl) ?_
              refine x_nil ?_
              refine n_then ?_
              refine x_ret ?_
              refine r_then ?_
              refine x_done (.inl rfl) (.cons (r_tmp rfl) .nil) ?_
              refine ⟨_, ⟨?_, rfl⟩, inferInstance⟩
              have hm : mayB n (plAt pg n.toNat) kind = true := by
                rw [← hge]; simp only [mayB, decide_eq_true_eq]
                simp only [Int.tmod_eq_emod_of_nonneg (show 0 ≤ (gGot pg n).2 by omega)] at *
                omega
              simp [pack, alwE, ht, hm]
            · intro c4
              refine x_skip ?_
              refine n_then ?_
              refine x_seq ?_
              refine x_region ?_
              refine s_val rfl (v_assign rfl) ?_
              refine x_nil ?_
              refine n_then ?_
              refine x_ret ?_
              refine x_done (.inl rfl) (.cons (r_tmp rfl) .nil) ?_
              refine ⟨_, ⟨?_, rfl⟩, inferInstance⟩
              have hm : mayB n (plAt pg n.toNat) kind = false := by
                rw [← hge, ← Bool.not_eq_true]; simp only [mayB, decide_eq_true_eq]
                simp only [Int.tmod_eq_emod_of_nonneg (show 0 ≤ (gGot pg n).2 by omega)] at *
                omega
              simp [pack, alwE, ht, hm]
          · intro g4_20
            refine s_no rfl rfl rfl rfl ?_
            refine s_no rfl rfl rfl rfl ?_
            refine s_yes rfl rfl ?_
            refine s_val rfl (v_pick_f rfl rfl) ?_
            refine s_val rfl (v_pick_f rfl rfl) ?_
            refine x_nil ?_
            refine n_then ?_
            refine x_iff rfl ?_
            refine x_skip ?_
            refine n_then ?_
            refine x_seq ?_
            refine x_region ?_
            refine s_val rfl (v_assign rfl) ?_
            refine x_nil ?_
            refine n_then ?_
            refine x_ret ?_
            refine x_done (.inl rfl) (.cons (r_tmp rfl) .nil) ?_
            refine ⟨_, ⟨?_, rfl⟩, inferInstance⟩
            have hm : mayB n (plAt pg n.toNat) kind = false := by
              rw [← hge, ← Bool.not_eq_true]; simp only [mayB, decide_eq_true_eq]
              simp only [Int.tmod_eq_emod_of_nonneg (show 0 ≤ (gGot pg n).2 by omega)] at *
              omega
            simp [pack, alwE, ht, hm]
    · intro g4_3
      refine s_no rfl rfl rfl rfl ?_
      refine s_val rfl (v_pick_f rfl rfl) ?_
      refine s_val rfl (v_move rfl) ?_
      refine s_yes rfl rfl ?_
      refine s_val rfl (v_move rfl) ?_
      refine s_yes rfl rfl ?_
      refine s_val rfl (v_eql rfl rfl) ?_
      refine s_yes rfl rfl ?_
      refine s_val rfl (v_move rfl) ?_
      refine s_and rfl rfl rfl ?_ ?_
      · intro g4_10
        refine s_val rfl (v_fieldAddr rfl Tryz.underlying156 rfl Tryz.sizeOf3 rfl (by first | exact Nat.zero_add _ | rfl)) ?_
        refine s_yes rfl rfl ?_
        refine s_val rfl (v_load Tryz.isAgg3 rfl (cell_own rfl)) ?_
        refine s_yes rfl rfl ?_
        refine s_val rfl (v_rem rfl rfl (by decide) rfl) ?_
        refine s_yes rfl rfl ?_
        refine s_val rfl (v_eql rfl rfl) ?_
        refine s_yes rfl rfl ?_
        refine s_val rfl (v_pick_t rfl rfl) ?_
        refine s_val rfl (v_pick_f rfl rfl) ?_
        refine s_val rfl (v_move rfl) ?_
        refine s_or rfl rfl rfl ?_ ?_
        · intro g4_17
          refine s_no rfl rfl rfl rfl ?_
          refine s_no rfl rfl rfl rfl ?_
          refine s_nou rfl rfl rfl ?_
          refine s_nou rfl rfl rfl ?_
          refine s_nou rfl rfl rfl ?_
          refine s_no rfl rfl rfl rfl ?_
          refine s_val rfl (v_pick_t rfl rfl) ?_
          refine x_nil ?_
          refine n_then ?_
          refine x_ift rfl ?_
          refine x_seq ?_
          refine x_region ?_
          refine s_val rfl (v_assign rfl) ?_
          refine x_nil ?_
          refine n_then ?_
          refine x_ret ?_
          refine r_then ?_
          refine x_done (.inl rfl) (.cons (r_tmp rfl) .nil) ?_
          refine ⟨_, ⟨?_, rfl⟩, inferInstance⟩
          have hm : mayB n (plAt pg n.toNat) kind = true := by
            rw [← hge]; simp only [mayB, decide_eq_true_eq]
            simp only [Int.tmod_eq_emod_of_nonneg (show 0 ≤ (gGot pg n).2 by omega)] at *
            omega
          simp [pack, alwE, ht, hm]
        · intro g4_17
          refine s_val rfl (v_move rfl) ?_
          refine s_yes rfl rfl ?_
          refine s_val rfl (v_eql rfl rfl) ?_
          refine s_yes rfl rfl ?_
          refine s_val rfl (v_move rfl) ?_
          refine s_and rfl rfl rfl ?_ ?_
          · intro g4_20
            refine s_val rfl (v_fieldAddr rfl Tryz.underlying156 rfl Tryz.sizeOf3 rfl (by first | exact Nat.zero_add _ | rfl)) ?_
            refine s_yes rfl rfl ?_
            refine s_val rfl (v_load Tryz.isAgg3 rfl (cell_own rfl)) ?_
            refine s_yes rfl rfl ?_
            refine s_val rfl (v_geq rfl rfl) ?_
            refine s_yes rfl rfl ?_
            refine s_val rfl (v_pick_t rfl rfl) ?_
            refine s_val rfl (v_pick_f rfl rfl) ?_
            refine x_nil ?_
            refine n_then ?_
            refine x_if rfl ?_ ?_
            · intro c4
              refine x_seq ?_
              refine x_region ?_
              refine s_val rfl (v_assign rfl) ?_
              refine x_nil ?_
              refine n_then ?_
              refine x_ret ?_
              refine r_then ?_
              refine x_done (.inl rfl) (.cons (r_tmp rfl) .nil) ?_
              refine ⟨_, ⟨?_, rfl⟩, inferInstance⟩
              have hm : mayB n (plAt pg n.toNat) kind = true := by
                rw [← hge]; simp only [mayB, decide_eq_true_eq]
                simp only [Int.tmod_eq_emod_of_nonneg (show 0 ≤ (gGot pg n).2 by omega)] at *
                omega
              simp [pack, alwE, ht, hm]
            · intro c4
              refine x_skip ?_
              refine n_then ?_
              refine x_seq ?_
              refine x_region ?_
              refine s_val rfl (v_assign rfl) ?_
              refine x_nil ?_
              refine n_then ?_
              refine x_ret ?_
              refine x_done (.inl rfl) (.cons (r_tmp rfl) .nil) ?_
              refine ⟨_, ⟨?_, rfl⟩, inferInstance⟩
              have hm : mayB n (plAt pg n.toNat) kind = false := by
                rw [← hge, ← Bool.not_eq_true]; simp only [mayB, decide_eq_true_eq]
                simp only [Int.tmod_eq_emod_of_nonneg (show 0 ≤ (gGot pg n).2 by omega)] at *
                omega
              simp [pack, alwE, ht, hm]
          · intro g4_20
            refine s_no rfl rfl rfl rfl ?_
            refine s_no rfl rfl rfl rfl ?_
            refine s_yes rfl rfl ?_
            refine s_val rfl (v_pick_f rfl rfl) ?_
            refine s_val rfl (v_pick_f rfl rfl) ?_
            refine x_nil ?_
            refine n_then ?_
            refine x_iff rfl ?_
            refine x_skip ?_
            refine n_then ?_
            refine x_seq ?_
            refine x_region ?_
            refine s_val rfl (v_assign rfl) ?_
            refine x_nil ?_
            refine n_then ?_
            refine x_ret ?_
            refine x_done (.inl rfl) (.cons (r_tmp rfl) .nil) ?_
            refine ⟨_, ⟨?_, rfl⟩, inferInstance⟩
            have hm : mayB n (plAt pg n.toNat) kind = false := by
              rw [← hge, ← Bool.not_eq_true]; simp only [mayB, decide_eq_true_eq]
              simp only [Int.tmod_eq_emod_of_nonneg (show 0 ≤ (gGot pg n).2 by omega)] at *
              omega
            simp [pack, alwE, ht, hm]
      · intro g4_10
        refine s_no rfl rfl rfl rfl ?_
        refine s_no rfl rfl rfl rfl ?_
        refine s_no rfl rfl rfl rfl ?_
        refine s_yes rfl rfl ?_
        refine s_val rfl (v_pick_f rfl rfl) ?_
        refine s_val rfl (v_pick_f rfl rfl) ?_
        refine s_val rfl (v_move rfl) ?_
        refine s_yes rfl rfl ?_
        refine s_val rfl (v_move rfl) ?_
        refine s_yes rfl rfl ?_
        refine s_val rfl (v_eql rfl rfl) ?_
        refine s_yes rfl rfl ?_
        refine s_val rfl (v_move rfl) ?_
        refine s_and rfl rfl rfl ?_ ?_
        · intro g4_20
          refine s_val rfl (v_fieldAddr rfl Tryz.underlying156 rfl Tryz.sizeOf3 rfl (by first | exact Nat.zero_add _ | rfl)) ?_
          refine s_yes rfl rfl ?_
          refine s_val rfl (v_load Tryz.isAgg3 rfl (cell_own rfl)) ?_
          refine s_yes rfl rfl ?_
          refine s_val rfl (v_geq rfl rfl) ?_
          refine s_yes rfl rfl ?_
          refine s_val rfl (v_pick_t rfl rfl) ?_
          refine s_val rfl (v_pick_f rfl rfl) ?_
          refine x_nil ?_
          refine n_then ?_
          refine x_if rfl ?_ ?_
          · intro c4
            refine x_seq ?_
            refine x_region ?_
            refine s_val rfl (v_assign rfl) ?_
            refine x_nil ?_
            refine n_then ?_
            refine x_ret ?_
            refine r_then ?_
            refine x_done (.inl rfl) (.cons (r_tmp rfl) .nil) ?_
            refine ⟨_, ⟨?_, rfl⟩, inferInstance⟩
            have hm : mayB n (plAt pg n.toNat) kind = true := by
              rw [← hge]; simp only [mayB, decide_eq_true_eq]
              simp only [Int.tmod_eq_emod_of_nonneg (show 0 ≤ (gGot pg n).2 by omega)] at *
              omega
            simp [pack, alwE, ht, hm]
          · intro c4
            refine x_skip ?_
            refine n_then ?_
            refine x_seq ?_
            refine x_region ?_
            refine s_val rfl (v_assign rfl) ?_
            refine x_nil ?_
            refine n_then ?_
            refine x_ret ?_
            refine x_done (.inl rfl) (.cons (r_tmp rfl) .nil) ?_
            refine ⟨_, ⟨?_, rfl⟩, inferInstance⟩
            have hm : mayB n (plAt pg n.toNat) kind = false := by
              rw [← hge, ← Bool.not_eq_true]; simp only [mayB, decide_eq_true_eq]
              simp only [Int.tmod_eq_emod_of_nonneg (show 0 ≤ (gGot pg n).2 by omega)] at *
              omega
            simp [pack, alwE, ht, hm]
        · intro g4_20
          refine s_no rfl rfl rfl rfl ?_
          refine s_no rfl rfl rfl rfl ?_
          refine s_yes rfl rfl ?_
          refine s_val rfl (v_pick_f rfl rfl) ?_
          refine s_val rfl (v_pick_f rfl rfl) ?_
          refine x_nil ?_
          refine n_then ?_
          refine x_iff rfl ?_
          refine x_skip ?_
          refine n_then ?_
          refine x_seq ?_
          refine x_region ?_
          refine s_val rfl (v_assign rfl) ?_
          refine x_nil ?_
          refine n_then ?_
          refine x_ret ?_
          refine x_done (.inl rfl) (.cons (r_tmp rfl) .nil) ?_
          refine ⟨_, ⟨?_, rfl⟩, inferInstance⟩
          have hm : mayB n (plAt pg n.toNat) kind = false := by
            rw [← hge, ← Bool.not_eq_true]; simp only [mayB, decide_eq_true_eq]
            simp only [Int.tmod_eq_emod_of_nonneg (show 0 ≤ (gGot pg n).2 by omega)] at *
            omega
          simp [pack, alwE, ht, hm]
end Go.Proofs.YtechkfopkpkigaaGreat
