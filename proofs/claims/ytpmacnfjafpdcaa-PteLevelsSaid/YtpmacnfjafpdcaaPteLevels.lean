/-
  The law PteLevels holds: a word is a root entry or a leaf, never both, for every input. Conditions: none.
-/
import Derived.Test.YtpmacnfjafpdcaaRows
import Derived.Test.YtpmacnfjafpdcaaPteLaw
import Derived.Test.YtpmacnfjafpdcaaFrame
namespace Go.Proofs.Ytpmacnfjafpdcaa
open Go.ChangeShapes Go.WideShapes Go.ChangeAt Go.RowKit
set_option linter.unusedSimpArgs false
set_option linter.unusedVariables false

set_option maxRecDepth 100000 in
theorem PteLevels_lifted (os : Os) (started : os.Started) (H : Type) (enc : TypeId × Value → H) :
    ReturnsInHanded {} Try.checked os 4 .any (Rows.pteLevelsSpec.pre6 enc Try.prog Try.f4 Rows.pteLevelsRow.domain false) (Rows.pteLevelsSpec.post enc Try.prog Try.f4 false true false false) := by
  refine returnsInHanded_of_change (C := Try.checked) own started (by kernel_rfl) Try.func4
    (ChangeSpec.witness6 (enc := enc) (C := Try.checked) false ⟨#[], #[.int .u32 0], []⟩ 8 (by kernel_rfl) (by kernel_rfl) (by kernel_rfl) (by kernel_rfl)) ?_
  intro W base args ds gs before hval0 hW hcnd _
  have hval : ∀ (j : Nat) t v, Try.f4.params[j]? = some t → args[j]? = some v → Value.okWide Try.prog W .any base t v := hval0
  have hW' := hW
  obtain ⟨p, q, hA, hV, rfl, hfz, hnd⟩ := hW
  obtain ⟨rfl, rfl⟩ := trodVars_none hV
  have hT0 := ty_all Try.f4.params.toList args.toList ds p (fun j t v ht hv => hval j t v (by simpa using ht) (by simpa using hv)) hA
  obtain ⟨vs, rfl⟩ : ∃ vs : List Value, args = vs.toArray := ⟨args.toList, by simp⟩
  rw [Try.params4] at hT0
  obtain ⟨k1, k2, hT⟩ := hT0
  replace k1 : 1 = vs.length := by simpa using k1
  replace k2 : 1 = ds.length := by simpa using k2
  obtain ⟨v0, vs0, rfl, k1_0⟩ := list_cons k1
  obtain rfl := list_nil k1_0
  obtain ⟨d0, ds0, rfl, k2_0⟩ := list_cons k2
  obtain rfl := list_nil k2_0
  have T0 : Ty Try.prog W 24 v0 := hT 0 24 v0 rfl rfl
  clear hT hval0
  have walk : Spec Try.prog W 4 [v0] [] (fun v _ => v = .bool true) := by
    clear hval hW' hV hA hfz hnd hcnd
    obtain ⟨w, rfl, hw⟩ := ty_u32 T0
    exact fun w' hO => (PteLevels_walk W w hw w' hO).mono fun e w'' ⟨v, B, h1, h2, h3⟩ => ⟨v, B, h1, h2.1, h3⟩
  refine (walk W (Own.refl W)).mono fun e W' h => ?_
  obtain ⟨v, B, rfl, rfl, hO⟩ := h
  have bel := hO.below
  exact ⟨_, rfl, _, _, _, [], _, [], hW', trodAll_mk1 (shut_bool Try.underlying4 _), below_trodAll laidOut bel _ _ _ _ (by kernel_rfl) hA, rfl, bel.frame _, fun h => by cases h⟩

theorem PteLevels_over : Rows.pteLevelsRow.holds Try.pinned (OpenSpec.ofChange Rows.pteLevelsSpec) :=
  OpenClaim.holds_of_wide 4 Try.f4 rfl rfl rfl rfl rfl rfl rfl ⟨rfl, rfl, rfl, rfl, rfl⟩ rfl rfl rfl rfl rfl (by kernel_rfl) Try.func4 (by kernel_rfl)
    (of_decide_eq_true (by kernel_rfl)) (by unfold Func.isWrapper; first | (rw [if_pos (by decide +kernel)]; kernel_rfl) | (rw [if_neg (by decide +kernel)]; exact ⟨rfl, rfl⟩))
    (fun os started H enc _ => PteLevels_lifted os started H enc)

/-- The statement. -/
theorem PteLevels_holds : Rows.PteLevelsSaid := PteLevels_over
end Go.Proofs.Ytpmacnfjafpdcaa
