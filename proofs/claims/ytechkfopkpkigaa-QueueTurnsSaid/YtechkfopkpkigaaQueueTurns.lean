/-
  The law QueueTurns holds: heads that are put one by one are taken one by one, in their order, and used ones stand in their order. Conditions: none.
-/
import Derived.Test.YtechkfopkpkigaaRows
import Derived.Test.YtechkfopkpkigaaQueueT
import Derived.Test.YtechkfopkpkigaaFrameBytes
namespace Go.Proofs.Ytechkfopkpkigaa
open Go.ChangeShapes Go.WideShapes Go.ChangeAt Go.RowKit
set_option linter.unusedSimpArgs false
set_option linter.unusedVariables false
set_option maxRecDepth 20000

set_option maxRecDepth 100000 in
theorem QueueTurns_lifted (os : Os) (started : os.Started) (H : Type) (enc : TypeId × Value → H) :
    ReturnsInHanded {} Try.checked os 3 .any (Rows.queueTurnsSpec.pre6 enc Try.prog Try.f3 Rows.queueTurnsRow.domain false) (Rows.queueTurnsSpec.post enc Try.prog Try.f3 false true false false) := by
  refine returnsInHanded_of_change (C := Try.checked) own started (by kernel_rfl) Try.func3
    (ChangeSpec.witness6 (enc := enc) (C := Try.checked) false ⟨#[], #[.slice none 0 0, .int .u8 0], []⟩ 8 (by kernel_rfl) (by kernel_rfl) (by kernel_rfl) (by kernel_rfl)) ?_
  intro W base args ds gs before hval0 hW hcnd _
  have hval : ∀ (j : Nat) t v, Try.f3.params[j]? = some t → args[j]? = some v → Value.okWide Try.prog W .any base t v := hval0
  have hW' := hW
  obtain ⟨p, q, hA, hV, rfl, hfz, hnd⟩ := hW
  obtain ⟨rfl, rfl⟩ := trodVars_none hV
  have hT0 := ty_all Try.f3.params.toList args.toList ds p (fun j t v ht hv => hval j t v (by simpa using ht) (by simpa using hv)) hA
  obtain ⟨vs, rfl⟩ : ∃ vs : List Value, args = vs.toArray := ⟨args.toList, by simp⟩
  rw [Try.params3] at hT0
  obtain ⟨k1, k2, hT⟩ := hT0
  replace k1 : 2 = vs.length := by simpa using k1
  replace k2 : 2 = ds.length := by simpa using k2
  obtain ⟨v0, vs0, rfl, k1_0⟩ := list_cons k1
  obtain ⟨v1, vs1, rfl, k1_1⟩ := list_cons k1_0
  obtain rfl := list_nil k1_1
  obtain ⟨d0, ds0, rfl, k2_0⟩ := list_cons k2
  obtain ⟨d1, ds1, rfl, k2_1⟩ := list_cons k2_0
  obtain rfl := list_nil k2_1
  have T0 : Ty Try.prog W 22 v0 := hT 0 22 v0 rfl rfl
  have T1 : Ty Try.prog W 5 v1 := hT 1 5 v1 rfl rfl
  clear hT hval0
  have walk : Spec Try.prog W 3 [v0, v1] [] (fun v _ => v = .bool true) := by
    clear hval hW' hV hA hfz hnd hcnd
    obtain ⟨a, c, heads, rfl, hl, _, hh, hb⟩ := ty_bytesB T0
    obtain ⟨size, rfl, hs⟩ := ty_u8 T1
    exact fun w' hO => (QueueTurns_walk W a c heads hh hb hl size hs w' hO).mono fun e w'' ⟨v, B, h1, h2, h3⟩ => ⟨v, B, h1, h2.1, h3⟩
  refine (walk W (Own.refl W)).mono fun e W' h => ?_
  obtain ⟨v, B, rfl, rfl, hO⟩ := h
  have bel := hO.below
  exact ⟨_, rfl, _, _, _, [], _, [], hW', trodAll_mk1 (shut_bool Try.underlying4 _), below_trodAll laidOut bel _ _ _ _ (by kernel_rfl) hA, rfl, bel.frame _, fun h => by cases h⟩

theorem QueueTurns_over : Rows.queueTurnsRow.holds Try.pinned (OpenSpec.ofChange Rows.queueTurnsSpec) :=
  OpenClaim.holds_of_wide 3 Try.f3 rfl rfl rfl rfl rfl rfl rfl ⟨rfl, rfl, rfl, rfl, rfl⟩ rfl rfl rfl rfl rfl (by kernel_rfl) Try.func3 (by kernel_rfl)
    (of_decide_eq_true (by kernel_rfl)) (by unfold Func.isWrapper; first | (rw [if_pos (by decide +kernel)]; kernel_rfl) | (rw [if_neg (by decide +kernel)]; exact ⟨rfl, rfl⟩))
    (fun os started H enc _ => QueueTurns_lifted os started H enc)

/-- The statement. -/
theorem QueueTurns_holds : Rows.QueueTurnsSaid := QueueTurns_over
end Go.Proofs.Ytechkfopkpkigaa
