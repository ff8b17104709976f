/-
  Layer 15 (gmap): a page is not there any more, by both texts.
-/
import Derived.Test.YtechkfopkpkigaaGreatRefGmap
namespace Go.Proofs.YtechkfopkpkigaaGreat
open Go.RowKit
set_option linter.unusedSimpArgs false
set_option linter.unusedVariables false
set_option maxRecDepth 20000

def drE (pg : List Pl) (n : Int) : Int := if isP n then (if thereB pg n then 0 else 3) else 1
def drP (pg : List Pl) (n : Int) : List Pl := if thereB pg n then pg.set n.toNat (0, 0) else pg
theorem there_page {pg : List Pl} {n : Int} (h : thereB pg n = true) : isP n = true := by
  simp only [thereB, Bool.and_eq_true] at h; exact h.1
theorem drP_ok {pg : List Pl} {n : Int} (h : Pgs pg) : Pgs (drP pg n) := by
  unfold drP; split
  · refine ⟨by simp [h.len], fun m hm hne => ?_⟩
    unfold plAt at hne ⊢
    by_cases e : n.toNat = m
    · subst e
      simp only [List.getD_eq_getElem?_getD, List.getElem?_set, if_true] at hne
      rw [if_pos (by rw [h.len]; exact hm)] at hne
      exact absurd rfl hne
    · simp only [List.getD_eq_getElem?_getD, List.getElem?_set_ne e] at hne ⊢
      have := h.ok m hm
      unfold plAt at this
      simp only [List.getD_eq_getElem?_getD] at this
      exact this hne
  · exact h
theorem gmDropA_spec (W0 : World) (R : List HP) (b : Nat) (pg : List Pl) (h : Pgs pg) (n : Int) : Spec Tryz.prog W0 105 [.pointer (some ⟨b, 0, none⟩), .int .i64 n] (pt b (gmO pg) :: R)
    (fun v B => v = .int .i64 (drE pg n) ∧ B = pt b (gmO (drP pg n)) :: R) := by
  have hl := h.len
  refine spec_body Tryz.func105 Tryz.ntmps105 rfl rfl ?_
  refine x_seq ?_
  refine x_region ?_
  refine s_val rfl (v_assign rfl) ?_
  refine x_nil ?_
  refine n_then ?_
  refine x_seq ?_
  refine x_block ?_
  refine x_seq ?_
  refine x_region ?_
  refine s_val rfl (v_move rfl) ?_
  refine s_do rfl (d_call1 Tryz.call164 rfl (gmNone_spec W0 _ b pg h)) ?_
  rintro _ B_ ⟨rfl, hB_⟩
  obtain rfl := hB_.symm
  refine s_val rfl (v_assign rfl) ?_
  refine x_nil ?_
  refine n_then ?_
  refine x_if rfl ?_ ?_
  · intro c1
    exact absurd c1 (by decide)
  · intro c1
    refine x_seq ?_
    refine x_region ?_
    refine s_val rfl (v_move rfl) ?_
    refine s_do rfl (d_call Tryz.call165 rfl (gmPage_spec W0 _ n)) ?_
    rintro _ B_ ⟨rfl, hB_⟩
    obtain rfl := hB_.symm
    refine s_val rfl (v_not rfl) ?_
    refine s_val rfl (v_assign rfl) ?_
    refine x_nil ?_
    refine n_then ?_
    refine x_if rfl ?_ ?_
    · intro c3
      refine x_seq ?_
      refine x_region ?_
      refine s_val rfl (v_assign rfl) ?_
      refine x_nil ?_
      refine n_then ?_
      refine x_ret ?_
      refine r_block ?_
      refine r_then ?_
      refine x_done (.inl rfl) (.cons (r_tmp rfl) .nil) ?_
      have hp : isP n = false := by simpa using c3
      have ht : thereB pg n = false := by simp [thereB, hp]
      exact ⟨_, ⟨by simp [pack, drE, hp], by rw [drP, ht, if_neg (by decide)]⟩, inferInstance⟩
    · intro c3
      have hp : isP n = true := by simpa using c3
      refine x_seq ?_
      refine x_region ?_
      refine s_val rfl (v_move rfl) ?_
      refine s_val rfl (v_move rfl) ?_
      refine s_do rfl (d_call1 Tryz.call167 rfl (gmThere_spec W0 _ b pg h n)) ?_
      rintro _ B_ ⟨rfl, hB_⟩
      obtain rfl := hB_.symm
      refine s_val rfl (v_not rfl) ?_
      refine s_val rfl (v_assign rfl) ?_
      refine x_nil ?_
      refine n_then ?_
      refine x_if rfl ?_ ?_
      · intro c5
        refine x_seq ?_
        refine x_region ?_
        refine s_val rfl (v_assign rfl) ?_
        refine x_nil ?_
        refine n_then ?_
        refine x_ret ?_
        refine r_block ?_
        refine r_then ?_
        refine x_done (.inl rfl) (.cons (r_tmp rfl) .nil) ?_
        have ht : thereB pg n = false := by simpa using c5
        exact ⟨_, ⟨by simp [pack, drE, hp, ht], by rw [drP, ht, if_neg (by decide)]⟩, inferInstance⟩
      · intro c5
        have ht : thereB pg n = true := by simpa using c5
        obtain ⟨i, rfl, hi⟩ := isP_nat hp
        refine x_skip ?_
        refine n_block ?_
        refine n_then ?_
        refine x_seq ?_
        refine x_region ?_
        refine s_val rfl (v_move rfl) ?_
        refine s_val rfl (v_move rfl) ?_
        refine s_val rfl (v_build Tryz.underlying156 Tryz.zeroValue156 (sized_cons Tryz.sizeOf3 (sized_cons Tryz.sizeOf3 sized_nil)) fil_nil) ?_
        refine s_val rfl (v_nilCheck rfl) ?_
        refine s_val rfl (v_fieldAddr rfl Tryz.underlying239 rfl Tryz.sizeOf157 rfl (by first | exact Nat.zero_add _ | rfl)) ?_
        refine s_val rfl (v_idxArr Tryz.underlying157 Tryz.sizeOf156 rfl rfl rfl hi (by first | exact Nat.zero_add _ | rfl)) ?_
        refine s_do0 (d_storeAgg Tryz.sizeOf156 rfl rfl rfl rfl (by rw [pg_len, hl]; omega) (pg_set (p := (0, 0)) (by omega))) ?_
        rintro _ _ rfl
        refine x_nil ?_
        refine n_then ?_
        refine x_seq ?_
        refine x_region ?_
        refine s_val rfl (v_assign rfl) ?_
        refine x_nil ?_
        refine n_then ?_
        refine x_ret ?_
        refine x_done (.inl rfl) (.cons (r_tmp rfl) .nil) ?_
        rw [show drP pg i = pg.set i (0, 0) by rw [drP, if_pos ht, Int.toNat_natCast]]
        exact ⟨_, ⟨by simp [pack, drE, hp, ht], rfl⟩, inferInstance⟩
theorem rg_del {pg : List Pl} {i : Nat} (h : pg.length = 12) (hi : i < 12) : setR ((pg.map thV ++ pg.flatMap plV).set (i * 1) (.bool false)) (12 + i * 2) (plV (0, 0)) = (pg.set i (0, 0)).map thV ++ (pg.set i (0, 0)).flatMap plV := by
  have ht : thV (0, 0) = .bool false := by rfl
  rw [Nat.mul_one, List.set_append_left _ _ (by simp; omega), ← ht, ← List.map_set]
  have e := setR_back (plV (0, 0)) ((pg.set i (0, 0)).map thV) (pg.flatMap plV) (i * 2)
  rw [show ((pg.set i (0, 0)).map thV).length = 12 by simp [h]] at e
  rw [e]
  have := pg_set (pg := pg) (sp := []) (n := i) (p := (0, 0)) (by omega)
  rw [List.append_nil, List.append_nil] at this
  rw [this]
theorem rgDrop_spec (W0 : World) (R : List HP) (b : Nat) (pg : List Pl) (h : Pgs pg) (n : Int) : Spec Tryz.prog W0 106 [.pointer (some ⟨b, 0, none⟩), .int .i64 n] (pt b (rgO pg) :: R)
    (fun v B => v = .int .i64 (drE pg n) ∧ B = pt b (rgO (drP pg n)) :: R) := by
  have hl := h.len
  refine spec_body Tryz.func106 Tryz.ntmps106 rfl rfl ?_
  refine x_seq ?_
  refine x_region ?_
  refine s_val rfl (v_assign rfl) ?_
  refine x_nil ?_
  refine n_then ?_
  refine x_seq ?_
  refine x_seq ?_
  refine x_region ?_
  refine s_val rfl (v_move rfl) ?_
  refine s_do rfl (d_call Tryz.call168 rfl (rgIs_spec W0 _ n)) ?_
  rintro _ B_ ⟨rfl, hB_⟩
  obtain rfl := hB_.symm
  refine s_val rfl (v_not rfl) ?_
  refine x_nil ?_
  refine n_then ?_
  refine x_if rfl ?_ ?_
  · intro c1
    refine x_seq ?_
    refine x_region ?_
    refine s_val rfl (v_assign rfl) ?_
    refine x_nil ?_
    refine n_then ?_
    refine x_ret ?_
    refine r_then ?_
    refine x_done (.inl rfl) (.cons (r_tmp rfl) .nil) ?_
    have hp : isP n = false := by simpa using c1
    have ht : thereB pg n = false := by simp [thereB, hp]
    exact ⟨_, ⟨by simp [pack, drE, hp], by rw [drP, ht, if_neg (by decide)]⟩, inferInstance⟩
  · intro c1
    have hp : isP n = true := by simpa using c1
    obtain ⟨i, hni, hi⟩ := isP_nat hp
    have htr := th_row (pg := pg) (sp := pg.flatMap plV) (i := i) (by omega)
    have hth : thereB pg n = decide (plAt pg i ≠ (0, 0)) := by rw [thereB, hp]; simp [hni]
    refine x_skip ?_
    refine n_then ?_
    refine x_seq ?_
    refine x_seq ?_
    refine x_region ?_
    refine s_val rfl (v_move rfl) ?_
    refine s_val rfl (v_move rfl) ?_
    refine s_val rfl (v_nilCheck rfl) ?_
    refine s_val rfl (v_fieldAddr rfl Tryz.underlying159 rfl Tryz.sizeOf117 rfl (by first | exact Nat.zero_add _ | rfl)) ?_
    refine s_val rfl (v_idxArr Tryz.underlying117 Tryz.sizeOf4 rfl rfl hni hi (by first | exact Nat.zero_add _ | rfl)) ?_
    refine s_val rfl (v_load Tryz.isAgg4 rfl (cells_part (vs := [thV (plAt pg i)]) htr rfl 0 _ rfl)) ?_
    refine s_val rfl (v_not rfl) ?_
    refine x_nil ?_
    refine n_then ?_
    refine x_if rfl ?_ ?_
    · intro c3
      have ht : thereB pg n = false := by rw [hth]; simpa using c3
      refine x_seq ?_
      refine x_region ?_
      refine s_val rfl (v_assign rfl) ?_
      refine x_nil ?_
      refine n_then ?_
      refine x_ret ?_
      refine r_then ?_
      refine x_done (.inl rfl) (.cons (r_tmp rfl) .nil) ?_
      exact ⟨_, ⟨by simp [pack, drE, hp, ht], by rw [drP, ht, if_neg (by decide)]⟩, inferInstance⟩
    · intro c3
      have ht : thereB pg n = true := by rw [hth]; simpa using c3
      refine x_skip ?_
      refine n_then ?_
      refine x_seq ?_
      refine x_region ?_
      refine s_val rfl (v_move rfl) ?_
      refine s_val rfl (v_move rfl) ?_
      refine s_val rfl (v_nilCheck rfl) ?_
      refine s_val rfl (v_fieldAddr rfl Tryz.underlying159 rfl Tryz.sizeOf117 rfl (by first | exact Nat.zero_add _ | rfl)) ?_
      refine s_val rfl (v_idxArr Tryz.underlying117 Tryz.sizeOf4 rfl rfl hni hi (by first | exact Nat.zero_add _ | rfl)) ?_
      refine s_do0 (d_store Tryz.sizeOf4 rfl rfl rfl (by rw [List.length_append, List.length_map, flat_len plV_len]; omega) rfl) ?_
      rintro _ _ rfl
      refine x_nil ?_
      refine n_then ?_
      refine x_seq ?_
      refine x_region ?_
      refine s_val rfl (v_move rfl) ?_
      refine s_val rfl (v_move rfl) ?_
      refine s_val rfl (v_build Tryz.underlying156 Tryz.zeroValue156 (sized_cons Tryz.sizeOf3 (sized_cons Tryz.sizeOf3 sized_nil)) fil_nil) ?_
      refine s_val rfl (v_nilCheck rfl) ?_
      refine s_val rfl (v_fieldAddr rfl Tryz.underlying159 rfl Tryz.sizeOf157 rfl (by first | exact Nat.zero_add _ | rfl)) ?_
      refine s_val rfl (v_idxArr Tryz.underlying157 Tryz.sizeOf156 rfl rfl hni hi (by first | exact Nat.zero_add _ | rfl)) ?_
      refine s_do0 (d_storeAgg Tryz.sizeOf156 rfl rfl rfl rfl (by rw [List.length_set, List.length_append, List.length_map, flat_len plV_len]; omega) (rg_del hl hi)) ?_
      rintro _ _ rfl
      refine x_nil ?_
      refine n_then ?_
      refine x_seq ?_
      refine x_region ?_
      refine s_val rfl (v_assign rfl) ?_
      refine x_nil ?_
      refine n_then ?_
      refine x_ret ?_
      refine x_done (.inl rfl) (.cons (r_tmp rfl) .nil) ?_
      rw [show drP pg n = pg.set i (0, 0) by rw [drP, if_pos ht, hni, Int.toNat_natCast]]
      exact ⟨_, ⟨by simp [pack, drE, hp, ht], rfl⟩, inferInstance⟩
end Go.Proofs.YtechkfopkpkigaaGreat
