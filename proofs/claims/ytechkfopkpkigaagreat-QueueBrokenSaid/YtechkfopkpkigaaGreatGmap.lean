/-
  Layer 15 (gmap): where a guest's pages lie.
-/
import Derived.Test.YtechkfopkpkigaaGreatBase
import Derived.Test.YtechkfopkpkigaaGreatPlus
namespace Go.Proofs.YtechkfopkpkigaaGreat
open Go.RowKit
set_option linter.unusedSimpArgs false
set_option linter.unusedVariables false
set_option maxRecDepth 20000

abbrev Pl := Int × Int
@[reducible] def plV (p : Pl) : List Value := [.int .i64 p.1, .int .i64 p.2]
theorem plV_len (p : Pl) : (plV p).length = 2 := rfl
def plAt (pg : List Pl) (n : Nat) : Pl := pg.getD n (0, 0)
def okPl (p : Pl) : Bool := decide (0 ≤ p.1 ∧ p.1 < 32 ∧ 1 ≤ p.2 ∧ p.2 ≤ 3)
/-- Twelve pages; who is there has a good place. -/
structure Pgs (pg : List Pl) : Prop where
  len : pg.length = 12
  ok : ∀ n, n < 12 → plAt pg n ≠ (0, 0) → okPl (plAt pg n) = true
def isP (n : Int) : Bool := decide (0 ≤ n ∧ n < 12)
theorem isP_nat {n : Int} (h : isP n = true) : ∃ i : Nat, n = (i : Int) ∧ i < 12 := by
  simp only [isP, decide_eq_true_eq] at h
  exact ⟨n.toNat, by omega, by omega⟩
abbrev gmO (pg : List Pl) : Obj := cob (pg.flatMap plV ++ [.bool true]) 239
theorem pg_row {pg : List Pl} {sp : List Value} {n : Nat} (hn : n < pg.length) : ((pg.flatMap plV ++ sp).drop (n * 2)).take 2 = plV (plAt pg n) := by
  rw [flat_row plV_len pg n sp hn]; simp [plAt, List.getD, hn]
theorem pg_set {pg : List Pl} {sp : List Value} {n : Nat} {p : Pl} (hn : n < pg.length) : setR (pg.flatMap plV ++ sp) (n * 2) (plV p) = (pg.set n p).flatMap plV ++ sp := flat_set plV_len pg n p sp hn
theorem pg_len (pg : List Pl) (sp : List Value) : (pg.flatMap plV ++ sp).length = pg.length * 2 + sp.length := by rw [List.length_append, flat_len plV_len]
theorem pg_made {pg : List Pl} (h : pg.length = 12) : (pg.flatMap plV ++ [.bool true])[24]? = some (Value.bool true) := by
  rw [List.getElem?_append_right (by rw [flat_len plV_len]; omega), flat_len plV_len, h]; rfl

theorem gmNew_spec (W0 : World) (R : List HP) : Spec Tryz.prog W0 86 [] R (fun v B => ∃ b, v = .pointer (some ⟨b, 0, none⟩) ∧ B = pt b (gmO (List.replicate 12 (0, 0))) :: R) := by
  refine spec_body Tryz.func86 Tryz.ntmps86 rfl rfl ?_
  refine x_seq ?_
  refine x_region ?_
  refine s_val rfl (v_assign rfl) ?_
  refine x_nil ?_
  refine n_then ?_
  refine x_seq ?_
  refine x_region ?_
  refine s_val rfl (v_build Tryz.underlying239 Tryz.zeroValue239 (sized_cons Tryz.sizeOf157 (sized_cons Tryz.sizeOf4 sized_nil)) (fil_scal rfl Tryz.sizeOf4 rfl rfl (Nat.le_of_ble_eq_true rfl) SetL.eq fil_nil)) ?_
  refine s_do rfl (d_boxA rfl) ?_
  rintro _ _ ⟨b1, rfl, rfl⟩
  refine s_val rfl (v_assign rfl) ?_
  refine x_nil ?_
  refine n_then ?_
  refine x_ret ?_
  refine x_done (.inl rfl) (.cons (r_tmp rfl) .nil) ?_
  exact ⟨_, ⟨b1, rfl, rfl⟩, ent_refl⟩
theorem gmNone_spec (W0 : World) (R : List HP) (b : Nat) (pg : List Pl) (h : Pgs pg) : Spec Tryz.prog W0 164 [.pointer (some ⟨b, 0, none⟩)] (pt b (gmO pg) :: R) (fun v B => v = .bool false ∧ B = pt b (gmO pg) :: R) := by
  refine spec_body Tryz.func164 Tryz.ntmps164 rfl rfl ?_
  refine x_seq ?_
  refine x_region ?_
  refine s_val rfl (v_assign rfl) ?_
  refine x_nil ?_
  refine n_then ?_
  refine x_seq ?_
  refine x_region ?_
  refine s_val rfl (v_move rfl) ?_
  refine s_val rfl (v_eql_ptr_nil Tryz.underlying151 rfl rfl) ?_
  refine s_val rfl (v_move rfl) ?_
  refine s_or rfl rfl rfl ?_ ?_
  · intro g1_3
    cases g1_3
  · intro g1_3
    refine s_val rfl (v_move rfl) ?_
    refine s_yes rfl rfl ?_
    refine s_val rfl (v_nilCheck rfl) ?_
    refine s_yes rfl rfl ?_
    refine s_val rfl (v_fieldAddr rfl Tryz.underlying239 rfl Tryz.sizeOf4 rfl (by first | exact Nat.zero_add _ | rfl)) ?_
    refine s_yes rfl rfl ?_
    refine s_val rfl (v_load Tryz.isAgg4 rfl (cell_own (pg_made h.len))) ?_
    refine s_yes rfl rfl ?_
    refine s_val rfl (v_not rfl) ?_
    refine s_val rfl (v_pick_f rfl rfl) ?_
    refine s_val rfl (v_assign rfl) ?_
    refine x_nil ?_
    refine n_then ?_
    refine x_ret ?_
    refine x_done (.inl rfl) (.cons (r_tmp rfl) .nil) ?_
    exact ⟨_, ⟨rfl, rfl⟩, inferInstance⟩
theorem gmPage_spec (W0 : World) (R : List HP) (n : Int) : Spec Tryz.prog W0 165 [.int .i64 n] R (fun v B => v = .bool (isP n) ∧ B = R) := by
  refine spec_body Tryz.func165 Tryz.ntmps165 rfl rfl ?_
  refine x_seq ?_
  refine x_region ?_
  refine s_val rfl (v_assign rfl) ?_
  refine x_nil ?_
  refine n_then ?_
  refine x_seq ?_
  refine x_region ?_
  refine s_val rfl (v_move rfl) ?_
  refine s_val rfl (v_geq rfl rfl) ?_
  refine s_val rfl (v_move rfl) ?_
  refine s_and rfl rfl rfl ?_ ?_
  · intro g1_3
    refine s_val rfl (v_move rfl) ?_
    refine s_yes rfl rfl ?_
    refine s_val rfl (v_lss rfl rfl) ?_
    refine s_val rfl (v_pick_t rfl rfl) ?_
    refine s_val rfl (v_assign rfl) ?_
    refine x_nil ?_
    refine n_then ?_
    refine x_ret ?_
    refine x_done (.inl rfl) (.cons (r_tmp rfl) .nil) ?_
    refine ⟨_, ⟨?_, rfl⟩, inferInstance⟩
    refine congrArg Value.bool ?_
    rw [Bool.eq_iff_iff]; simp only [isP, decide_eq_true_eq, Bool.false_eq_true, false_iff]; omega
  · intro g1_3
    refine s_no rfl rfl rfl rfl ?_
    refine s_val rfl (v_pick_f rfl rfl) ?_
    refine s_val rfl (v_assign rfl) ?_
    refine x_nil ?_
    refine n_then ?_
    refine x_ret ?_
    refine x_done (.inl rfl) (.cons (r_tmp rfl) .nil) ?_
    refine ⟨_, ⟨?_, rfl⟩, inferInstance⟩
    refine congrArg Value.bool ?_
    rw [Bool.eq_iff_iff]; simp only [isP, decide_eq_true_eq, Bool.false_eq_true, false_iff]; omega
theorem gmPlace_spec (W0 : World) (R : List HP) (p : Pl) : Spec Tryz.prog W0 166 [.agg (plV p).toArray] R (fun v B => v = .bool (okPl p) ∧ B = R) := by
  refine spec_body Tryz.func166 Tryz.ntmps166 rfl rfl ?_
  refine x_seq ?_
  refine x_region ?_
  refine s_do rfl (d_boxA rfl) ?_
  rintro _ _ ⟨b1, rfl, rfl⟩
  refine s_val rfl (v_assign rfl) ?_
  refine x_nil ?_
  refine n_then ?_
  refine x_seq ?_
  refine x_region ?_
  refine s_val rfl (v_fieldAddr rfl Tryz.underlying156 rfl Tryz.sizeOf3 rfl (by first | exact Nat.zero_add _ | rfl)) ?_
  refine s_val rfl (v_load Tryz.isAgg3 rfl (cell_own rfl)) ?_
  refine s_val rfl (v_geq rfl rfl) ?_
  refine s_val rfl (v_move rfl) ?_
  refine s_and rfl rfl rfl ?_ ?_
  · intro g1_4
    refine s_val rfl (v_fieldAddr rfl Tryz.underlying156 rfl Tryz.sizeOf3 rfl (by first | exact Nat.zero_add _ | rfl)) ?_
    refine s_yes rfl rfl ?_
    refine s_val rfl (v_load Tryz.isAgg3 rfl (cell_own rfl)) ?_
    refine s_yes rfl rfl ?_
    refine s_val rfl (v_lss rfl rfl) ?_
    refine s_val rfl (v_pick_t rfl rfl) ?_
    refine s_val rfl (v_move rfl) ?_
    refine s_and rfl rfl rfl ?_ ?_
    · intro g1_9
      refine s_val rfl (v_fieldAddr rfl Tryz.underlying156 rfl Tryz.sizeOf3 rfl (by first | exact Nat.zero_add _ | rfl)) ?_
      refine s_yes rfl rfl ?_
      refine s_val rfl (v_load Tryz.isAgg3 rfl (cell_own rfl)) ?_
      refine s_yes rfl rfl ?_
      refine s_val rfl (v_geq rfl rfl) ?_
      refine s_val rfl (v_pick_t rfl rfl) ?_
      refine s_val rfl (v_move rfl) ?_
      refine s_and rfl rfl rfl ?_ ?_
      · intro g1_14
        refine s_val rfl (v_fieldAddr rfl Tryz.underlying156 rfl Tryz.sizeOf3 rfl (by first | exact Nat.zero_add _ | rfl)) ?_
        refine s_yes rfl rfl ?_
        refine s_val rfl (v_load Tryz.isAgg3 rfl (cell_own rfl)) ?_
        refine s_yes rfl rfl ?_
        refine s_val rfl (v_leq rfl rfl) ?_
        refine s_val rfl (v_pick_t rfl rfl) ?_
        refine s_val rfl (v_assign rfl) ?_
        refine x_nil ?_
        refine n_then ?_
        refine x_ret ?_
        refine x_done (.inl rfl) (.cons (r_tmp rfl) .nil) ?_
        refine ⟨_, ⟨?_, rfl⟩, inferInstance⟩
        refine congrArg Value.bool ?_
        rw [Bool.eq_iff_iff]; simp only [okPl, decide_eq_true_eq, Bool.false_eq_true, false_iff]; omega
      · intro g1_14
        refine s_no rfl rfl rfl rfl ?_
        refine s_no rfl rfl rfl rfl ?_
        refine s_val rfl (v_pick_f rfl rfl) ?_
        refine s_val rfl (v_assign rfl) ?_
        refine x_nil ?_
        refine n_then ?_
        refine x_ret ?_
        refine x_done (.inl rfl) (.cons (r_tmp rfl) .nil) ?_
        refine ⟨_, ⟨?_, rfl⟩, inferInstance⟩
        refine congrArg Value.bool ?_
        rw [Bool.eq_iff_iff]; simp only [okPl, decide_eq_true_eq, Bool.false_eq_true, false_iff]; omega
    · intro g1_9
      refine s_no rfl rfl rfl rfl ?_
      refine s_no rfl rfl rfl rfl ?_
      refine s_val rfl (v_pick_f rfl rfl) ?_
      refine s_val rfl (v_move rfl) ?_
      refine s_no rfl rfl rfl rfl ?_
      refine s_no rfl rfl rfl rfl ?_
      refine s_no rfl rfl rfl rfl ?_
      refine s_val rfl (v_pick_f rfl rfl) ?_
      refine s_val rfl (v_assign rfl) ?_
      refine x_nil ?_
      refine n_then ?_
      refine x_ret ?_
      refine x_done (.inl rfl) (.cons (r_tmp rfl) .nil) ?_
      refine ⟨_, ⟨?_, rfl⟩, inferInstance⟩
      refine congrArg Value.bool ?_
      rw [Bool.eq_iff_iff]; simp only [okPl, decide_eq_true_eq, Bool.false_eq_true, false_iff]; omega
  · intro g1_4
    refine s_no rfl rfl rfl rfl ?_
    refine s_no rfl rfl rfl rfl ?_
    refine s_val rfl (v_pick_f rfl rfl) ?_
    refine s_val rfl (v_move rfl) ?_
    refine s_no rfl rfl rfl rfl ?_
    refine s_no rfl rfl rfl rfl ?_
    refine s_no rfl rfl rfl rfl ?_
    refine s_val rfl (v_pick_f rfl rfl) ?_
    refine s_val rfl (v_move rfl) ?_
    refine s_no rfl rfl rfl rfl ?_
    refine s_no rfl rfl rfl rfl ?_
    refine s_no rfl rfl rfl rfl ?_
    refine s_val rfl (v_pick_f rfl rfl) ?_
    refine s_val rfl (v_assign rfl) ?_
    refine x_nil ?_
    refine n_then ?_
    refine x_ret ?_
    refine x_done (.inl rfl) (.cons (r_tmp rfl) .nil) ?_
    refine ⟨_, ⟨?_, rfl⟩, inferInstance⟩
    refine congrArg Value.bool ?_
    rw [Bool.eq_iff_iff]; simp only [okPl, decide_eq_true_eq, Bool.false_eq_true, false_iff]; omega
def thereB (pg : List Pl) (n : Int) : Bool := isP n && decide (plAt pg n.toNat ≠ (0, 0))
theorem gmThere_spec (W0 : World) (R : List HP) (b : Nat) (pg : List Pl) (h : Pgs pg) (n : Int) : Spec Tryz.prog W0 167 [.pointer (some ⟨b, 0, none⟩), .int .i64 n] (pt b (gmO pg) :: R) (fun v B => v = .bool (thereB pg n) ∧ B = pt b (gmO pg) :: R) := by
  refine spec_body Tryz.func167 Tryz.ntmps167 rfl rfl ?_
  refine x_seq ?_
  refine x_region ?_
  refine s_val rfl (v_assign rfl) ?_
  refine x_nil ?_
  refine n_then ?_
  refine x_seq ?_
  refine x_region ?_
  refine s_val rfl (v_move rfl) ?_
  refine s_do rfl (d_call Tryz.call165 rfl (gmPage_spec W0 _ n)) ?_
  rintro _ B_ ⟨rfl, hB_⟩
  obtain rfl := hB_.symm
  refine s_val rfl (v_move rfl) ?_
  refine s_and rfl rfl rfl ?_ ?_
  · intro g1_3
    obtain ⟨i, rfl, hi⟩ := isP_nat g1_3
    have hl := h.len
    refine s_val rfl (v_move rfl) ?_
    refine s_yes rfl rfl ?_
    refine s_val rfl (v_move rfl) ?_
    refine s_yes rfl rfl ?_
    refine s_val rfl (v_nilCheck rfl) ?_
    refine s_yes rfl rfl ?_
    refine s_val rfl (v_fieldAddr rfl Tryz.underlying239 rfl Tryz.sizeOf157 rfl (by first | exact Nat.zero_add _ | rfl)) ?_
    refine s_yes rfl rfl ?_
    refine s_val rfl (v_idxArr Tryz.underlying157 Tryz.sizeOf156 rfl rfl rfl (by omega) (by first | exact Nat.zero_add _ | rfl)) ?_
    refine s_yes rfl rfl ?_
    refine s_val rfl (v_loadAgg Tryz.isAgg156 Tryz.sizeOf156 rfl (cells_part (pg_row (by omega)) rfl) rfl) ?_
    refine s_yes rfl rfl ?_
    refine s_val rfl (v_build Tryz.underlying156 Tryz.zeroValue156 (sized_cons Tryz.sizeOf3 (sized_cons Tryz.sizeOf3 sized_nil)) fil_nil) ?_
    refine s_yes rfl rfl ?_
    refine s_val rfl (v_neq_agg Tryz.eqGuardType156 rfl rfl (q_struct Tryz.underlying156 Tryz.stoodInHeld156 (qf_scal rfl Tryz.isAgg3 rfl rfl (q_int Tryz.underlying3) (qf_scal rfl Tryz.isAgg3 rfl rfl (q_int Tryz.underlying3) qf_nil)))) ?_
    refine s_val rfl (v_pick_t rfl rfl) ?_
    refine s_val rfl (v_assign rfl) ?_
    refine x_nil ?_
    refine n_then ?_
    refine x_ret ?_
    refine x_done (.inl rfl) (.cons (r_tmp rfl) .nil) ?_
    refine ⟨_, ⟨?_, rfl⟩, inferInstance⟩
    refine congrArg Value.bool ?_
    first
      | (rw [Bool.eq_iff_iff]; simp [thereB, g1_3, Prod.ext_iff])
      | simp [thereB, g1_3]
  · intro g1_3
    refine s_no rfl rfl rfl rfl ?_
    refine s_no rfl rfl rfl rfl ?_
    refine s_no rfl rfl rfl rfl ?_
    refine s_no rfl rfl rfl rfl ?_
    refine s_no rfl rfl rfl rfl ?_
    refine s_no rfl rfl rfl rfl ?_
    refine s_no rfl rfl rfl rfl ?_
    refine s_val rfl (v_pick_f rfl rfl) ?_
    refine s_val rfl (v_assign rfl) ?_
    refine x_nil ?_
    refine n_then ?_
    refine x_ret ?_
    refine x_done (.inl rfl) (.cons (r_tmp rfl) .nil) ?_
    refine ⟨_, ⟨?_, rfl⟩, inferInstance⟩
    refine congrArg Value.bool ?_
    first
      | (rw [Bool.eq_iff_iff]; simp [thereB, g1_3, Prod.ext_iff])
      | simp [thereB, g1_3]
def gGot (pg : List Pl) (n : Int) : Pl := if thereB pg n then plAt pg n.toNat else (0, 0)
theorem gmGet_spec (W0 : World) (R : List HP) (b : Nat) (pg : List Pl) (h : Pgs pg) (n : Int) : Spec Tryz.prog W0 193 [.pointer (some ⟨b, 0, none⟩), .int .i64 n] (pt b (gmO pg) :: R)
    (fun v B => v = .tuple #[.agg (plV (gGot pg n)).toArray, .bool (thereB pg n)] ∧ B = pt b (gmO pg) :: R) := by
  refine spec_body Tryz.func193 Tryz.ntmps193 rfl rfl ?_
  refine x_seq ?_
  refine x_region ?_
  refine s_do rfl (d_allocA Tryz.zeroValue156) ?_
  rintro _ _ ⟨b1, rfl, rfl⟩
  refine s_val rfl (v_assign rfl) ?_
  refine x_nil ?_
  refine n_then ?_
  refine x_seq ?_
  refine x_seq ?_
  refine x_region ?_
  refine s_val rfl (v_move rfl) ?_
  refine s_do rfl (d_call1 Tryz.call164 rfl (gmNone_spec W0 _ b pg h)) ?_
  rintro _ B_ ⟨rfl, hB_⟩
  obtain rfl := hB_.symm
  refine s_val rfl (v_move rfl) ?_
  refine s_or rfl rfl rfl ?_ ?_
  · intro g1_3
    exact absurd g1_3 (by decide)
  · intro g1_3
    refine s_val rfl (v_move rfl) ?_
    refine s_yes rfl rfl ?_
    refine s_val rfl (v_move rfl) ?_
    refine s_yes rfl rfl ?_
    refine s_do rfl (d_call1 Tryz.call167 rfl (gmThere_spec W0 _ b pg h n)) ?_
    rintro _ B_ ⟨rfl, hB_⟩
    obtain rfl := hB_.symm
    refine s_yes rfl rfl ?_
    refine s_val rfl (v_not rfl) ?_
    refine s_val rfl (v_pick_f rfl rfl) ?_
    refine x_nil ?_
    refine n_then ?_
    refine x_if rfl ?_ ?_
    · intro c1
      refine x_seq ?_
      refine x_region ?_
      refine s_val rfl (v_build Tryz.underlying156 Tryz.zeroValue156 (sized_cons Tryz.sizeOf3 (sized_cons Tryz.sizeOf3 sized_nil)) fil_nil) ?_
      refine s_do0 (d_storeAll Tryz.sizeOf156 rfl rfl rfl rfl rfl) ?_
      rintro _ _ rfl
      refine s_val rfl (v_assign rfl) ?_
      refine x_nil ?_
      refine n_then ?_
      refine x_ret ?_
      refine r_then ?_
      refine x_done (.inl rfl) (.cons (r_all Tryz.isAgg156 Tryz.sizeOf156 rfl rfl) (.cons (r_tmp rfl) .nil)) ?_
      refine ⟨_, ⟨?_, rfl⟩, inferInstance⟩
      have ht : thereB pg n = false := by simpa using c1
      simp [pack, gGot, ht]
    · intro c1
      have ht : thereB pg n = true := by simpa using c1
      have hp : isP n = true := by simp only [thereB, Bool.and_eq_true] at ht; exact ht.1
      obtain ⟨i, rfl, hi⟩ := isP_nat hp
      have hl := h.len
      refine x_skip ?_
      refine n_then ?_
      refine x_seq ?_
      refine x_region ?_
      refine s_val rfl (v_move rfl) ?_
      refine s_val rfl (v_move rfl) ?_
      refine s_val rfl (v_nilCheck rfl) ?_
      refine s_val rfl (v_fieldAddr rfl Tryz.underlying239 rfl Tryz.sizeOf157 rfl (by first | exact Nat.zero_add _ | rfl)) ?_
      refine s_val rfl (v_idxArr Tryz.underlying157 Tryz.sizeOf156 rfl rfl rfl (by omega) (by first | exact Nat.zero_add _ | rfl)) ?_
      refine s_val rfl (v_loadAgg Tryz.isAgg156 Tryz.sizeOf156 rfl (cells_part (pg_row (by omega)) rfl) rfl) ?_
      refine s_do0 (d_storeAll Tryz.sizeOf156 rfl rfl rfl rfl rfl) ?_
      rintro _ _ rfl
      refine s_val rfl (v_assign rfl) ?_
      refine x_nil ?_
      refine n_then ?_
      refine x_ret ?_
      refine x_done (.inl rfl) (.cons (r_all Tryz.isAgg156 Tryz.sizeOf156 rfl rfl) (.cons (r_tmp rfl) .nil)) ?_
      refine ⟨_, ⟨?_, rfl⟩, inferInstance⟩
      simp [pack, gGot, ht]

def setE (pg : List Pl) (n : Int) (p : Pl) : Int := if isP n ∧ okPl p then (if thereB pg n then 5 else 0) else 1
def setP (pg : List Pl) (n : Int) (p : Pl) : List Pl := if setE pg n p = 0 then pg.set n.toNat p else pg
theorem setP_ok {pg : List Pl} {n : Int} {p : Pl} (h : Pgs pg) : Pgs (setP pg n p) := by
  unfold setP; split
  · rename_i hs
    have hop : okPl p = true := by
      unfold setE at hs; split at hs
      · rename_i k; exact k.2
      · omega
    refine ⟨by simp [h.len], fun m hm hne => ?_⟩
    unfold plAt at hne ⊢
    by_cases e : n.toNat = m
    · subst e
      simp only [List.getD_eq_getElem?_getD, List.getElem?_set, if_true] at hne ⊢
      rw [if_pos (by rw [h.len]; exact hm)] at hne ⊢
      exact hop
    · simp only [List.getD_eq_getElem?_getD, List.getElem?_set_ne e] at hne ⊢
      have := h.ok m hm
      unfold plAt at this
      simp only [List.getD_eq_getElem?_getD] at this
      exact this hne
  · exact h
theorem gmSet_spec (W0 : World) (R : List HP) (b : Nat) (pg : List Pl) (h : Pgs pg) (n : Int) (p : Pl) : Spec Tryz.prog W0 88 [.pointer (some ⟨b, 0, none⟩), .int .i64 n, .agg (plV p).toArray] (pt b (gmO pg) :: R)
    (fun v B => v = .int .i64 (setE pg n p) ∧ B = pt b (gmO (setP pg n p)) :: R) := by
  have hl := h.len
  refine spec_body Tryz.func88 Tryz.ntmps88 rfl rfl ?_
  refine x_seq ?_
  refine x_region ?_
  refine s_do rfl (d_boxA rfl) ?_
  rintro _ _ ⟨b1, rfl, rfl⟩
  refine s_val rfl (v_assign rfl) ?_
  refine x_nil ?_
  refine n_then ?_
  refine x_seq ?_
  refine x_block ?_
  refine x_seq ?_
  refine x_region ?_
  refine s_val rfl (v_move rfl) ?_
  refine s_do rfl (d_call1 Tryz.call164 rfl (gmNone_spec W0 _ b pg h)) ?_
  rintro _ B_ ⟨rfl, hB_⟩
  obtain rfl := hB_.symm
  refine s_val rfl (v_assign rfl) ?_
  refine x_nil ?_
  refine n_then ?_
  refine x_if rfl ?_ ?_
  · intro c1
    exact absurd c1 (by decide)
  · intro c1
    refine x_seq ?_
    refine x_seq ?_
    refine x_region ?_
    refine s_val rfl (v_move rfl) ?_
    refine s_do rfl (d_call Tryz.call165 rfl (gmPage_spec W0 _ n)) ?_
    rintro _ B_ ⟨rfl, hB_⟩
    obtain rfl := hB_.symm
    refine s_val rfl (v_not rfl) ?_
    refine s_val rfl (v_assign rfl) ?_
    refine x_nil ?_
    refine n_then ?_
    refine x_if rfl ?_ ?_
    · intro c3
      refine x_skip ?_
      refine n_then ?_
      refine x_ift rfl ?_
      refine x_seq ?_
      refine x_region ?_
      refine s_val rfl (v_assign rfl) ?_
      refine x_nil ?_
      refine n_then ?_
      refine x_ret ?_
      refine r_block ?_
      refine r_then ?_
      refine x_done (.inl rfl) (.cons (r_tmp rfl) .nil) ?_
      have he : setE pg n p = 1 := by
        unfold setE; rw [if_neg]
        first
          | (intro hk; exact absurd hk.1 (by simpa using c3))
          | (intro hk; exact absurd hk.2 (by simpa using c4))
      exact ⟨_, ⟨by simp [pack, he], by rw [setP, he, if_neg (by decide)]⟩, inferInstance⟩
    · intro c3
      have hp : isP n = true := by simpa using c3
      refine x_region ?_
      refine s_val rfl (v_loadAll Tryz.isAgg156 Tryz.sizeOf156 rfl rfl) ?_
      refine s_do rfl (d_call Tryz.call166 rfl (gmPlace_spec W0 _ p)) ?_
      rintro _ B_ ⟨rfl, hB_⟩
      obtain rfl := hB_.symm
      refine s_val rfl (v_not rfl) ?_
      refine s_val rfl (v_assign rfl) ?_
      refine x_nil ?_
      refine n_then ?_
      refine x_if rfl ?_ ?_
      · intro c4
        refine x_seq ?_
        refine x_region ?_
        refine s_val rfl (v_assign rfl) ?_
        refine x_nil ?_
        refine n_then ?_
        refine x_ret ?_
        refine r_block ?_
        refine r_then ?_
        refine x_done (.inl rfl) (.cons (r_tmp rfl) .nil) ?_
        have he : setE pg n p = 1 := by
          unfold setE; rw [if_neg]
          first
            | (intro hk; exact absurd hk.1 (by simpa using c3))
            | (intro hk; exact absurd hk.2 (by simpa using c4))
        exact ⟨_, ⟨by simp [pack, he], by rw [setP, he, if_neg (by decide)]⟩, inferInstance⟩
      · intro c4
        have ho : okPl p = true := by simpa using c4
        refine x_seq ?_
        refine x_region ?_
        refine s_val rfl (v_move rfl) ?_
        refine s_val rfl (v_move rfl) ?_
        refine s_do rfl (d_call1 Tryz.call167 rfl (gmThere_spec W0 _ b pg h n)) ?_
        rintro _ B_ ⟨rfl, hB_⟩
        obtain rfl := hB_.symm
        refine s_val rfl (v_assign rfl) ?_
        refine x_nil ?_
        refine n_then ?_
        refine x_if rfl ?_ ?_
        · intro c6
          refine x_seq ?_
          refine x_region ?_
          refine s_val rfl (v_assign rfl) ?_
          refine x_nil ?_
          refine n_then ?_
          refine x_ret ?_
          refine r_block ?_
          refine r_then ?_
          refine x_done (.inl rfl) (.cons (r_tmp rfl) .nil) ?_
          have he : setE pg n p = 5 := by
            unfold setE; rw [if_pos ⟨hp, ho⟩, if_pos c6]
          exact ⟨_, ⟨by simp [pack, he], by rw [setP, he, if_neg (by decide)]⟩, inferInstance⟩
        · intro c6
          have ht : thereB pg n = false := by simpa using c6
          have he : setE pg n p = 0 := by simp [setE, hp, ho, ht]
          refine x_skip ?_
          refine n_block ?_
          refine n_then ?_
          refine x_seq ?_
          obtain ⟨i, rfl, hi⟩ := isP_nat hp
          refine x_draw [(b1, 0, _)] 7 mixed rfl (sc_own sc_end) (fun hS => ?_)
          refine d_take 0 rfl rfl (by kernel_rfl) (by kernel_rfl) (by kernel_rfl) rfl hS (v_move rfl) ?_
          refine d_take 1 rfl rfl (by kernel_rfl) (by kernel_rfl) (by kernel_rfl) rfl hS (v_move rfl) ?_
          refine d_take 2 rfl rfl (by kernel_rfl) (by kernel_rfl) (by kernel_rfl) rfl hS (v_loadAgg Tryz.isAgg156 Tryz.sizeOf156 rfl (cells_sc (k := 0) rfl) rfl) ?_
          refine d_take 3 rfl rfl (by kernel_rfl) (by kernel_rfl) (by kernel_rfl) rfl hS (v_nilCheck rfl) ?_
          refine d_take 4 rfl rfl (by kernel_rfl) (by kernel_rfl) (by kernel_rfl) rfl hS (v_fieldAddr rfl Tryz.underlying239 rfl Tryz.sizeOf157 rfl (by first | exact Nat.zero_add _ | rfl)) ?_
          refine d_take 5 rfl rfl (by kernel_rfl) (by kernel_rfl) (by kernel_rfl) rfl hS (v_idxArr Tryz.underlying157 Tryz.sizeOf156 rfl rfl rfl hi (by first | exact Nat.zero_add _ | rfl)) ?_
          refine d_one 6 (by kernel_rfl) rfl rfl (d_storeAgg Tryz.sizeOf156 rfl rfl rfl rfl (by rw [pg_len, hl]; omega) (pg_set (by omega))) rfl ?_; clear hS
          rintro _ _ rfl
          refine ⟨(sc_own sc_end), fun hS => ?_⟩
          refine d_done (by kernel_rfl) ?_; clear hS
          refine n_then ?_
          refine x_seq ?_
          refine x_region ?_
          refine s_val rfl (v_assign rfl) ?_
          refine x_nil ?_
          refine n_then ?_
          refine x_ret ?_
          refine x_done (.inl rfl) (.cons (r_tmp rfl) .nil) ?_
          rw [show setP pg i p = pg.set i p by simp [setP, he]]
          exact ⟨_, ⟨by simp [pack, he], rfl⟩, inferInstance⟩
theorem gmDrop_spec (W0 : World) (R : List HP) (b : Nat) (pg : List Pl) (h : Pgs pg) : Spec Tryz.prog W0 105 [.pointer (some ⟨b, 0, none⟩), .int .i64 12] (pt b (gmO pg) :: R)
    (fun v B => v = .int .i64 1 ∧ B = pt b (gmO pg) :: R) := by
  refine spec_body Tryz.func105 Tryz.ntmps105 rfl rfl ?_
  refine x_seq ?_
  refine x_region ?_
  refine s_val rfl (v_assign rfl) ?_
  refine x_nil ?_
  refine n_then ?_
  refine x_seq ?_
  refine x_block ?_
  refine x_seq ?_
  refine x_region ?_
  refine s_val rfl (v_move rfl) ?_
  refine s_do rfl (d_call1 Tryz.call164 rfl (gmNone_spec W0 _ b pg h)) ?_
  rintro _ B_ ⟨rfl, hB_⟩
  obtain rfl := hB_.symm
  refine s_val rfl (v_assign rfl) ?_
  refine x_nil ?_
  refine n_then ?_
  refine x_if rfl ?_ ?_
  · intro c1
    exact absurd c1 (by decide)
  · intro c1
    refine x_seq ?_
    refine x_region ?_
    refine s_val rfl (v_move rfl) ?_
    refine s_do rfl (d_call Tryz.call165 rfl (gmPage_spec W0 _ 12)) ?_
    rintro _ B_ ⟨rfl, hB_⟩
    obtain rfl := hB_.symm
    refine s_val rfl (v_not rfl) ?_
    refine s_val rfl (v_assign rfl) ?_
    refine x_nil ?_
    refine n_then ?_
    refine x_if rfl ?_ ?_
    · intro c3
      refine x_seq ?_
      refine x_region ?_
      refine s_val rfl (v_assign rfl) ?_
      refine x_nil ?_
      refine n_then ?_
      refine x_ret ?_
      refine r_block ?_
      refine r_then ?_
      refine x_done (.inl rfl) (.cons (r_tmp rfl) .nil) ?_
      exact ⟨_, ⟨rfl, rfl⟩, inferInstance⟩
    · intro c3
      exact absurd c3 (by decide)
def mayB (n : Int) (p : Pl) (kind : Int) : Bool := decide (kind = 0 ∧ n < 8 ∨ kind = 1 ∧ p.2 % 2 = 1 ∨ kind = 2 ∧ 2 ≤ p.2)
theorem okPl_iff {p : Pl} : okPl p = true ↔ 0 ≤ p.1 ∧ p.1 < 32 ∧ 1 ≤ p.2 ∧ p.2 ≤ 3 := by simp [okPl]
theorem and13 {r : Int} (h : 1 ≤ r ∧ r ≤ 3) : bAnd .i64 r 1 = r % 2 := by
  have : r = 1 ∨ r = 2 ∨ r = 3 := by omega
  rcases this with rfl | rfl | rfl <;> decide
theorem and23 {r : Int} (h : 1 ≤ r ∧ r ≤ 3) : bAnd .i64 r 2 = r / 2 * 2 := by
  have : r = 1 ∨ r = 2 ∨ r = 3 := by omega
  rcases this with rfl | rfl | rfl <;> decide
theorem gmMay_spec (W0 : World) (R : List HP) (n : Int) (p : Pl) (hp : okPl p = true) (kind : Int) : Spec Tryz.prog W0 235 [.int .i64 n, .agg (plV p).toArray, .int .i64 kind] R (fun v B => v = .bool (mayB n p kind) ∧ B = R) := by
  have ho := okPl_iff.1 hp
  refine spec_body Tryz.func235 Tryz.ntmps235 rfl rfl ?_
  refine x_seq ?_
  refine x_region ?_
  refine s_do rfl (d_boxA rfl) ?_
  rintro _ _ ⟨b1, rfl, rfl⟩
  refine s_val rfl (v_assign rfl) ?_
  refine x_nil ?_
  refine n_then ?_
  refine x_seq ?_
  refine x_seq ?_
  refine x_region ?_
  refine s_val rfl (v_move rfl) ?_
  refine x_nil ?_
  refine n_then ?_
  refine x_block ?_
  refine x_seq ?_
  refine x_region ?_
  refine s_val rfl (v_eql rfl rfl) ?_
  refine s_val rfl (v_assign rfl) ?_
  refine x_nil ?_
  refine n_then ?_
  refine x_if rfl ?_ ?_
  · intro c2
    refine x_seq ?_
    refine x_region ?_
    refine s_val rfl (v_move rfl) ?_
    refine s_val rfl (v_lss rfl rfl) ?_
    refine s_val rfl (v_assign rfl) ?_
    refine x_nil ?_
    refine n_then ?_
    refine x_ret ?_
    refine r_block ?_
    refine r_then ?_
    refine x_done (.inl rfl) (.cons (r_tmp rfl) .nil) ?_
    refine ⟨_, ⟨?_, rfl⟩, inferInstance⟩
    refine congrArg Value.bool ?_
    rw [Bool.eq_iff_iff]; simp only [mayB, decide_eq_true_eq, Bool.false_eq_true, false_iff, bne_iff_ne]; omega
  · intro c2
    refine x_seq ?_
    refine x_region ?_
    refine s_val rfl (v_eql rfl rfl) ?_
    refine s_val rfl (v_assign rfl) ?_
    refine x_nil ?_
    refine n_then ?_
    refine x_if rfl ?_ ?_
    · intro c4
      refine x_seq ?_
      refine x_region ?_
      refine s_val rfl (v_fieldAddr rfl Tryz.underlying156 rfl Tryz.sizeOf3 rfl (by first | exact Nat.zero_add _ | rfl)) ?_
      refine s_val rfl (v_load Tryz.isAgg3 rfl (cell_own rfl)) ?_
      refine s_val rfl (v_and rfl rfl (and13 ⟨ho.2.2.1, ho.2.2.2⟩)) ?_
      refine s_val rfl (v_neq rfl rfl) ?_
      refine s_val rfl (v_assign rfl) ?_
      refine x_nil ?_
      refine n_then ?_
      refine x_ret ?_
      refine r_block ?_
      refine r_then ?_
      refine x_done (.inl rfl) (.cons (r_tmp rfl) .nil) ?_
      refine ⟨_, ⟨?_, rfl⟩, inferInstance⟩
      refine congrArg Value.bool ?_
      rw [Bool.eq_iff_iff]; simp only [mayB, decide_eq_true_eq, Bool.false_eq_true, false_iff, bne_iff_ne]; omega
    · intro c4
      refine x_seq ?_
      refine x_region ?_
      refine s_val rfl (v_eql rfl rfl) ?_
      refine s_val rfl (v_assign rfl) ?_
      refine x_nil ?_
      refine n_then ?_
      refine x_if rfl ?_ ?_
      · intro c6
        refine x_seq ?_
        refine x_region ?_
        refine s_val rfl (v_fieldAddr rfl Tryz.underlying156 rfl Tryz.sizeOf3 rfl (by first | exact Nat.zero_add _ | rfl)) ?_
        refine s_val rfl (v_load Tryz.isAgg3 rfl (cell_own rfl)) ?_
        refine s_val rfl (v_and rfl rfl (and23 ⟨ho.2.2.1, ho.2.2.2⟩)) ?_
        refine s_val rfl (v_neq rfl rfl) ?_
        refine s_val rfl (v_assign rfl) ?_
        refine x_nil ?_
        refine n_then ?_
        refine x_ret ?_
        refine r_block ?_
        refine r_then ?_
        refine x_done (.inl rfl) (.cons (r_tmp rfl) .nil) ?_
        refine ⟨_, ⟨?_, rfl⟩, inferInstance⟩
        refine congrArg Value.bool ?_
        rw [Bool.eq_iff_iff]; simp only [mayB, decide_eq_true_eq, Bool.false_eq_true, false_iff, bne_iff_ne]; omega
      · intro c6
        refine x_skip ?_
        refine n_block ?_
        refine n_then ?_
        refine x_seq ?_
        refine x_region ?_
        refine s_val rfl (v_assign rfl) ?_
        refine x_nil ?_
        refine n_then ?_
        refine x_ret ?_
        refine x_done (.inl rfl) (.cons (r_tmp rfl) .nil) ?_
        refine ⟨_, ⟨?_, rfl⟩, inferInstance⟩
        refine congrArg Value.bool ?_
        rw [Bool.eq_iff_iff]; simp only [mayB, decide_eq_true_eq, Bool.false_eq_true, false_iff, bne_iff_ne]; omega
def alwE (pg : List Pl) (n kind : Int) : Int := if thereB pg n then (if mayB n (plAt pg n.toNat) kind then 0 else 6) else 7
theorem gGot_ok {pg : List Pl} {n : Int} (h : Pgs pg) (ht : thereB pg n = true) : okPl (gGot pg n) = true := by
  simp only [gGot, ht, if_true]
  simp only [thereB, Bool.and_eq_true, decide_eq_true_eq] at ht
  obtain ⟨i, rfl, hi⟩ := isP_nat ht.1
  exact h.ok _ (by simpa using hi) ht.2
theorem gmAllows_spec (W0 : World) (R : List HP) (b : Nat) (pg : List Pl) (h : Pgs pg) (n kind : Int) : Spec Tryz.prog W0 192 [.pointer (some ⟨b, 0, none⟩), .int .i64 n, .int .i64 kind] (pt b (gmO pg) :: R)
    (fun v B => v = .int .i64 (alwE pg n kind) ∧ B = pt b (gmO pg) :: R) := by
  refine spec_body Tryz.func192 Tryz.ntmps192 rfl rfl ?_
  refine x_seq ?_
  refine x_region ?_
  refine s_val rfl (v_assign rfl) ?_
  refine x_nil ?_
  refine n_then ?_
  refine x_seq ?_
  refine x_region ?_
  refine s_val rfl (v_move rfl) ?_
  refine s_val rfl (v_move rfl) ?_
  refine s_do rfl (d_call1 Tryz.call193 rfl (gmGet_spec W0 _ b pg h n)) ?_
  rintro _ B_ ⟨rfl, hB_⟩
  obtain rfl := hB_.symm
  refine s_val rfl (v_move rfl) ?_
  refine s_val rfl (v_extract rfl rfl) ?_
  refine s_val rfl (v_extract rfl rfl) ?_
  refine s_do rfl (d_allocA Tryz.zeroValue156) ?_
  rintro _ _ ⟨b1, rfl, rfl⟩
  refine s_do0 (d_storeAll Tryz.sizeOf156 rfl rfl rfl rfl rfl) ?_
  rintro _ _ rfl
  refine s_val rfl (v_assign rfl) ?_
  refine x_nil ?_
  refine n_then ?_
  refine x_seq ?_
  refine x_block ?_
  refine x_seq ?_
  refine x_region ?_
  refine s_val rfl (v_move rfl) ?_
  refine s_val rfl (v_not rfl) ?_
  refine s_val rfl (v_assign rfl) ?_
  refine x_nil ?_
  refine n_then ?_
  refine x_if rfl ?_ ?_
  · intro c2
    refine x_seq ?_
    refine x_region ?_
    refine s_val rfl (v_assign rfl) ?_
    refine x_nil ?_
    refine n_then ?_
    refine x_ret ?_
    refine r_block ?_
    refine r_then ?_
    refine x_done (.inl rfl) (.cons (r_tmp rfl) .nil) ?_
    refine ⟨_, ⟨?_, rfl⟩, inferInstance⟩
    have ht : thereB pg n = false := by simpa using c2
    simp [pack, alwE, ht]
  · intro c2
    have ht : thereB pg n = true := by simpa using c2
    refine x_seq ?_
    refine x_region ?_
    refine s_val rfl (v_move rfl) ?_
    refine s_val rfl (v_loadAll Tryz.isAgg156 Tryz.sizeOf156 rfl rfl) ?_
    refine s_val rfl (v_move rfl) ?_
    refine s_do rfl (d_call Tryz.call235 rfl (gmMay_spec W0 _ n (gGot pg n) (gGot_ok h ht) kind)) ?_
    rintro _ B_ ⟨rfl, hB_⟩
    obtain rfl := hB_.symm
    refine s_val rfl (v_not rfl) ?_
    refine s_val rfl (v_assign rfl) ?_
    refine x_nil ?_
    refine n_then ?_
    refine x_if rfl ?_ ?_
    · intro c4
      refine x_seq ?_
      refine x_region ?_
      refine s_val rfl (v_assign rfl) ?_
      refine x_nil ?_
      refine n_then ?_
      refine x_ret ?_
      refine r_block ?_
      refine r_then ?_
      refine x_done (.inl rfl) (.cons (r_tmp rfl) .nil) ?_
      refine ⟨_, ⟨?_, rfl⟩, inferInstance⟩
      have hm : mayB n (plAt pg n.toNat) kind = false := by simpa [gGot, ht] using c4
      simp [pack, alwE, ht, hm]
    · intro c4
      refine x_skip ?_
      refine n_block ?_
      refine n_then ?_
      refine x_seq ?_
      refine x_region ?_
      refine s_val rfl (v_assign rfl) ?_
      refine x_nil ?_
      refine n_then ?_
      refine x_ret ?_
      refine x_done (.inl rfl) (.cons (r_tmp rfl) .nil) ?_
      refine ⟨_, ⟨?_, rfl⟩, inferInstance⟩
      have hm : mayB n (plAt pg n.toNat) kind = true := by simpa [gGot, ht] using c4
      simp [pack, alwE, ht, hm]
end Go.Proofs.YtechkfopkpkigaaGreat
