/-
  The law ViewBack holds: what was saved is loaded, what was written is read, for every input. Conditions: none.
-/
import Derived.Test.YtpmacnfjafpdcaaRows
import Derived.Test.YtpmacnfjafpdcaaViewLawD
import Derived.Test.YtpmacnfjafpdcaaFrameView
namespace Go.Proofs.Ytpmacnfjafpdcaa
open Go.ChangeShapes Go.WideShapes Go.ChangeAt Go.RowKit
set_option linter.unusedSimpArgs false
set_option linter.unusedVariables false

set_option maxRecDepth 100000 in
theorem ViewBack_lifted (os : Os) (started : os.Started) (H : Type) (enc : TypeId × Value → H) :
    ReturnsInHanded {} Try.checked os 12 .any (Rows.viewBackSpec.pre6 enc Try.prog Try.f12 Rows.viewBackRow.domain false) (Rows.viewBackSpec.post enc Try.prog Try.f12 false true false false) := by
  refine returnsInHanded_of_change (C := Try.checked) own started (by kernel_rfl) Try.func12
    (ChangeSpec.witness6 (enc := enc) (C := Try.checked) false ⟨#[], #[.int .u8 0, .slice none 0 0, .slice none 0 0, .int .u32 0, .int .u32 0, .slice none 0 0], []⟩ 8 (by kernel_rfl) (by kernel_rfl) (by kernel_rfl) (by kernel_rfl)) ?_
  intro W base args ds gs before hval0 hW hcnd _
  have hval : ∀ (j : Nat) t v, Try.f12.params[j]? = some t → args[j]? = some v → Value.okWide Try.prog W .any base t v := hval0
  have hW' := hW
  obtain ⟨p, q, hA, hV, rfl, hfz, hnd⟩ := hW
  obtain ⟨rfl, rfl⟩ := trodVars_none hV
  have hT0 := ty_all Try.f12.params.toList args.toList ds p (fun j t v ht hv => hval j t v (by simpa using ht) (by simpa using hv)) hA
  obtain ⟨vs, rfl⟩ : ∃ vs : List Value, args = vs.toArray := ⟨args.toList, by simp⟩
  rw [Try.params12] at hT0
  obtain ⟨k1, k2, hT⟩ := hT0
  replace k1 : 6 = vs.length := by simpa using k1
  replace k2 : 6 = ds.length := by simpa using k2
  obtain ⟨v0, vs0, rfl, k1_0⟩ := list_cons k1
  obtain ⟨v1, vs1, rfl, k1_1⟩ := list_cons k1_0
  obtain ⟨v2, vs2, rfl, k1_2⟩ := list_cons k1_1
  obtain ⟨v3, vs3, rfl, k1_3⟩ := list_cons k1_2
  obtain ⟨v4, vs4, rfl, k1_4⟩ := list_cons k1_3
  obtain ⟨v5, vs5, rfl, k1_5⟩ := list_cons k1_4
  obtain rfl := list_nil k1_5
  obtain ⟨d0, ds0, rfl, k2_0⟩ := list_cons k2
  obtain ⟨d1, ds1, rfl, k2_1⟩ := list_cons k2_0
  obtain ⟨d2, ds2, rfl, k2_2⟩ := list_cons k2_1
  obtain ⟨d3, ds3, rfl, k2_3⟩ := list_cons k2_2
  obtain ⟨d4, ds4, rfl, k2_4⟩ := list_cons k2_3
  obtain ⟨d5, ds5, rfl, k2_5⟩ := list_cons k2_4
  obtain rfl := list_nil k2_5
  have T0 : Ty Try.prog W 5 v0 := hT 0 5 v0 rfl rfl
  have T1 : Ty Try.prog W 56 v1 := hT 1 56 v1 rfl rfl
  have T2 : Ty Try.prog W 57 v2 := hT 2 57 v2 rfl rfl
  have T3 : Ty Try.prog W 24 v3 := hT 3 24 v3 rfl rfl
  have T4 : Ty Try.prog W 24 v4 := hT 4 24 v4 rfl rfl
  have T5 : Ty Try.prog W 64 v5 := hT 5 64 v5 rfl rfl
  clear hT hval0
  have walk : Spec Try.prog W 12 [v0, v1, v2, v3, v4, v5] [] (fun v _ => v = .bool true) := by
    clear hval hW' hV hA hfz hnd hcnd
    obtain ⟨n, rfl, hn⟩ := ty_u8 T0
    obtain ⟨a, c, pages, rfl, hl1, h1⟩ := ty_ints T1
    obtain ⟨a', c', pls, rfl, hl2, h2⟩ := ty_places T2
    obtain ⟨pa, rfl, hpa⟩ := ty_u32 T3
    obtain ⟨x, rfl, hx⟩ := ty_u32 T4
    obtain ⟨ab, cb, bs, rfl, hl3, h3, hb⟩ := ty_bytes T5
    exact fun w' hO => (ViewBack_walk W n hn a a' ab c c' cb pages pls bs h1 h2 h3 hl1 hl2 hl3 hb pa x hpa hx w' hO).mono fun e w'' ⟨v, B, h1, h2, h3⟩ => ⟨v, B, h1, h2.1, h3⟩
  refine (walk W (Own.refl W)).mono fun e W' h => ?_
  obtain ⟨v, B, rfl, rfl, hO⟩ := h
  have bel := hO.below
  exact ⟨_, rfl, _, _, _, [], _, [], hW', trodAll_mk1 (shut_bool Try.underlying4 _), below_trodAll laidOut bel _ _ _ _ (by kernel_rfl) hA, rfl, bel.frame _, fun h => by cases h⟩

theorem ViewBack_over : Rows.viewBackRow.holds Try.pinned (OpenSpec.ofChange Rows.viewBackSpec) :=
  OpenClaim.holds_of_wide 12 Try.f12 rfl rfl rfl rfl rfl rfl rfl ⟨rfl, rfl, rfl, rfl, rfl⟩ rfl rfl rfl rfl rfl (by kernel_rfl) Try.func12 (by kernel_rfl)
    (of_decide_eq_true (by kernel_rfl)) (by unfold Func.isWrapper; first | (rw [if_pos (by decide +kernel)]; kernel_rfl) | (rw [if_neg (by decide +kernel)]; exact ⟨rfl, rfl⟩))
    (fun os started H enc _ => ViewBack_lifted os started H enc)

/-- The statement. -/
theorem ViewBack_holds : Rows.ViewBackSaid := ViewBack_over
end Go.Proofs.Ytpmacnfjafpdcaa
