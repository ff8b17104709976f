/-
  Layer 18 (stlb): the laws' walks.
-/
import Derived.Test.YtechkfopkpkigaaStlbD
import Derived.Test.YtechkfopkpkigaaLaw
namespace Go.Proofs.Ytechkfopkpkigaa
open Go.RowKit
set_option linter.unusedSimpArgs false
set_option linter.unusedVariables false
set_option maxRecDepth 20000

theorem awake18_spec (W0 : World) (R : List HP) : Spec Try.prog W0 34 [] R (fun v B => v = .bool true ∧ B = R) := by
  refine spec_body Try.func34 Try.ntmps34 rfl rfl ?_
  refine x_seq ?_
  refine x_region ?_
  refine s_val rfl (v_assign rfl) ?_
  refine x_nil ?_
  refine n_then ?_
  refine x_seq ?_
  refine x_region ?_
  refine s_do rfl (d_call Try.call28 rfl (New_spec W0 _ 1 (by decide))) ?_
  rintro _ _ ⟨b, rfl, rfl⟩
  refine s_val rfl (v_move rfl) ?_
  refine s_val rfl (v_extract rfl rfl) ?_
  refine s_val rfl (v_extract rfl rfl) ?_
  refine s_val rfl (v_assign rfl) ?_
  refine s_val rfl (v_assign rfl) ?_
  refine x_nil ?_
  refine n_then ?_
  refine x_seq ?_
  refine x_region ?_
  refine s_val rfl (v_move rfl) ?_
  refine s_val rfl (v_neq_ptr_nil Try.underlying68 rfl rfl) ?_
  refine s_val rfl (v_move rfl) ?_
  refine s_and rfl rfl rfl ?_ ?_
  · intro g2_3
    refine s_val rfl (v_move rfl) ?_
    refine s_yes rfl rfl ?_
    refine s_val rfl (v_eql rfl rfl) ?_
    refine s_val rfl (v_pick_t rfl rfl) ?_
    refine s_val rfl (v_move rfl) ?_
    refine s_and rfl rfl rfl ?_ ?_
    · intro g2_7
      refine s_val rfl (v_move rfl) ?_
      refine s_yes rfl rfl ?_
      refine s_val rfl (v_build Try.underlying73 Try.zeroValue73 (sized_cons Try.sizeOf3 (sized_cons Try.sizeOf3 sized_nil)) fil_nil) ?_
      refine s_yes rfl rfl ?_
      refine s_val rfl (v_build Try.underlying75 Try.zeroValue75 (sized_cons Try.sizeOf3 (sized_cons Try.sizeOf3 (sized_cons Try.sizeOf3 sized_nil))) fil_nil) ?_
      refine s_yes rfl rfl ?_
      refine s_do rfl (d_call1 Try.call29 rfl (Put_spec18 W0 _ b [] 1 0 [] (0, 0) (0, 0, 0) Rep.nil (by simp) (by decide) (by decide))) ?_
      rintro _ _ ⟨rfl, its, rfl, hR⟩
      refine s_yes rfl rfl ?_
      refine s_val rfl (v_eql rfl rfl) ?_
      refine s_val rfl (v_pick_t rfl rfl) ?_
      refine s_val rfl (v_move rfl) ?_
      refine s_and rfl rfl rfl ?_ ?_
      · intro g2_14
        refine s_val rfl (v_move rfl) ?_
        refine s_yes rfl rfl ?_
        refine s_do rfl (d_call1 Try.call33 rfl (Len_spec W0 _ b its _ _)) ?_
        rintro _ B_ ⟨rfl, hB_⟩
        obtain rfl := hB_.symm
        refine s_yes rfl rfl ?_
        refine s_val rfl (v_eql rfl rfl) ?_
        refine s_val rfl (v_pick_t rfl rfl) ?_
        refine s_val rfl (v_assign rfl) ?_
        refine x_nil ?_
        refine n_then ?_
        refine x_ret ?_
        refine x_done (.inl rfl) (.cons (r_tmp rfl) .nil) ?_
        refine ⟨_, ⟨?_, rfl⟩, inferInstance⟩
        have hl := hR.length
        simp [putL, putBack, without] at hl
        simp [pack, hl]
      · intro g2_14
        exact absurd rfl g2_14
    · intro g2_7
      exact absurd rfl g2_7
  · intro g2_3
    exact absurd g2_3 (by simp)

theorem rem3 (w : Nat) (h : w < 256) : IntKind.wrap .i64 (2 + ((w % 3 : Nat) : Int)) = ((2 + w % 3 : Nat) : Int) := by rw [w64 (by omega)]; omega
/-- What is seen behind a Put: there if there is room at all. -/
theorem room_seen {room now now' : Nat} {k : Key} {e : Ent3} {its L : List It} (hL : L.length ≤ room) (hR : Rep its (now + 1) (putL room now k e L)) :
    ∃ ok ee, getV k (putL room now k e L) = .tuple #[.agg (entV ee).toArray, .bool ok] ∧ ok = decide (0 < room) ∧ (ok = true → ee = e) ∧ (findK k (getL now' k (putL room now k e L))).isSome = ok := by
  rcases Nat.eq_zero_or_pos room with h | h
  · subst h
    rw [put_zero hL]
    exact ⟨false, (0, 0, 0), by simp [getV, findK_nil], by simp, by simp, by simp [getL, findK_nil]⟩
  · have hf := put_find h hR.keys
    exact ⟨true, e, by simp [getV, hf, mkIt_ent], by simp [h], by simp, by rw [getL_some hf, find_putBack (k := k) rfl]; rfl⟩
end Go.Proofs.Ytechkfopkpkigaa
