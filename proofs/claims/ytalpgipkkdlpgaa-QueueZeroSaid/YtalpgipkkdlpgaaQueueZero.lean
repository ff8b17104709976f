/-
  The law QueueZero holds: a queue that nobody made takes nothing. Conditions: none.
-/
import Derived.Test.YtalpgipkkdlpgaaRows
import Derived.Test.YtalpgipkkdlpgaaQueueZ
import Derived.Test.YtalpgipkkdlpgaaFrameRing
import Derived.Test.YtalpgipkkdlpgaaFrameBytes
namespace Go.Proofs.Ytalpgipkkdlpgaa
open Go.ChangeShapes Go.WideShapes Go.ChangeAt Go.RowKit
set_option linter.unusedSimpArgs false
set_option linter.unusedVariables false

set_option maxRecDepth 100000 in
theorem QueueZero_lifted (os : Os) (started : os.Started) (H : Type) (enc : TypeId × Value → H) :
    ReturnsInHanded {} Try.checked os 7 .any (Rows.queueZeroSpec.pre6 enc Try.prog Try.f7 Rows.queueZeroRow.domain false) (Rows.queueZeroSpec.post enc Try.prog Try.f7 false true false false) := by
  refine returnsInHanded_of_change (C := Try.checked) own started (by kernel_rfl) Try.func7
    (ChangeSpec.witness6 (enc := enc) (C := Try.checked) false ⟨#[], #[.agg #[.int .u32 0, .int .u32 0, .int .u32 0, .int .i64 0], .int .i64 0, .int .i64 0], []⟩ 8 (by kernel_rfl) (by kernel_rfl) (by kernel_rfl) (by kernel_rfl)) ?_
  intro W base args ds gs before hval0 hW hcnd _
  have hval : ∀ (j : Nat) t v, Try.f7.params[j]? = some t → args[j]? = some v → Value.okWide Try.prog W .any base t v := hval0
  have hW' := hW
  obtain ⟨p, q, hA, hV, rfl, hfz, hnd⟩ := hW
  obtain ⟨rfl, rfl⟩ := trodVars_none hV
  have hT0 := ty_all Try.f7.params.toList args.toList ds p (fun j t v ht hv => hval j t v (by simpa using ht) (by simpa using hv)) hA
  obtain ⟨vs, rfl⟩ : ∃ vs : List Value, args = vs.toArray := ⟨args.toList, by simp⟩
  rw [Try.params7] at hT0
  obtain ⟨k1, k2, hT⟩ := hT0
  replace k1 : 3 = vs.length := by simpa using k1
  replace k2 : 3 = ds.length := by simpa using k2
  obtain ⟨v0, vs0, rfl, k1_0⟩ := list_cons k1
  obtain ⟨v1, vs1, rfl, k1_1⟩ := list_cons k1_0
  obtain ⟨v2, vs2, rfl, k1_2⟩ := list_cons k1_1
  obtain rfl := list_nil k1_2
  obtain ⟨d0, ds0, rfl, k2_0⟩ := list_cons k2
  obtain ⟨d1, ds1, rfl, k2_1⟩ := list_cons k2_0
  obtain ⟨d2, ds2, rfl, k2_2⟩ := list_cons k2_1
  obtain rfl := list_nil k2_2
  have T0 : Ty Try.prog W 49 v0 := hT 0 49 v0 rfl rfl
  have T1 : Ty Try.prog W 3 v1 := hT 1 3 v1 rfl rfl
  have T2 : Ty Try.prog W 3 v2 := hT 2 3 v2 rfl rfl
  clear hT hval0
  have walk : Spec Try.prog W 7 [v0, v1, v2] [] (fun v _ => v = .bool true) := by
    clear hval hW' hV hA hfz hnd hcnd
    obtain ⟨r, rfl, hr⟩ := ty_ring T0
    obtain ⟨a, rfl, _⟩ := ty_i64 T1
    obtain ⟨b, rfl, _⟩ := ty_i64 T2
    exact fun w' hO => (QueueZero_walk W r a b w' hO).mono fun e w'' ⟨v, B, h1, h2, h3⟩ => ⟨v, B, h1, h2.1, h3⟩
  refine (walk W (Own.refl W)).mono fun e W' h => ?_
  obtain ⟨v, B, rfl, rfl, hO⟩ := h
  have bel := hO.below
  exact ⟨_, rfl, _, _, _, [], _, [], hW', trodAll_mk1 (shut_bool Try.underlying4 _), below_trodAll laidOut bel _ _ _ _ (by kernel_rfl) hA, rfl, bel.frame _, fun h => by cases h⟩

theorem QueueZero_over : Rows.queueZeroRow.holds Try.pinned (OpenSpec.ofChange Rows.queueZeroSpec) :=
  OpenClaim.holds_of_wide 7 Try.f7 rfl rfl rfl rfl rfl rfl rfl ⟨rfl, rfl, rfl, rfl, rfl⟩ rfl rfl rfl rfl rfl (by kernel_rfl) Try.func7 (by kernel_rfl)
    (of_decide_eq_true (by kernel_rfl)) (by unfold Func.isWrapper; first | (rw [if_pos (by decide +kernel)]; kernel_rfl) | (rw [if_neg (by decide +kernel)]; exact ⟨rfl, rfl⟩))
    (fun os started H enc _ => QueueZero_lifted os started H enc)

/-- The statement. -/
theorem QueueZero_holds : Rows.QueueZeroSaid := QueueZero_over
end Go.Proofs.Ytalpgipkkdlpgaa
