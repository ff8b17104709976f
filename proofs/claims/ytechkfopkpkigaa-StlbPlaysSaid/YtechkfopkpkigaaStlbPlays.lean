/-
  The law StlbPlays holds: any acts: all that is told, and all that is remembered behind each, is the document's answer. Conditions: none.
-/
import Derived.Test.YtechkfopkpkigaaRows
import Derived.Test.YtechkfopkpkigaaStlbP
import Derived.Test.YtechkfopkpkigaaFrameTlb
import Derived.Test.YtechkfopkpkigaaFrameTlbR
namespace Go.Proofs.Ytechkfopkpkigaa
open Go.ChangeShapes Go.WideShapes Go.ChangeAt Go.RowKit
set_option linter.unusedSimpArgs false
set_option linter.unusedVariables false

set_option maxRecDepth 100000 in
theorem StlbPlays_lifted (os : Os) (started : os.Started) (H : Type) (enc : TypeId × Value → H) :
    ReturnsInHanded {} Try.checked os 8 .any (Rows.stlbPlaysSpec.pre6 enc Try.prog Try.f8 Rows.stlbPlaysRow.domain false) (Rows.stlbPlaysSpec.post enc Try.prog Try.f8 false true false false) := by
  refine returnsInHanded_of_change (C := Try.checked) own started (by kernel_rfl) Try.func8
    (ChangeSpec.witness6 (enc := enc) (C := Try.checked) false ⟨#[], #[.int .i64 0, .slice none 0 0, .slice none 0 0, .slice none 0 0], []⟩ 8 (by kernel_rfl) (by kernel_rfl) (by kernel_rfl) (by kernel_rfl)) ?_
  intro W base args ds gs before hval0 hW hcnd _
  have hval : ∀ (j : Nat) t v, Try.f8.params[j]? = some t → args[j]? = some v → Value.okWide Try.prog W .any base t v := hval0
  have hW' := hW
  obtain ⟨p, q, hA, hV, rfl, hfz, hnd⟩ := hW
  obtain ⟨rfl, rfl⟩ := trodVars_none hV
  have hT0 := ty_all Try.f8.params.toList args.toList ds p (fun j t v ht hv => hval j t v (by simpa using ht) (by simpa using hv)) hA
  obtain ⟨vs, rfl⟩ : ∃ vs : List Value, args = vs.toArray := ⟨args.toList, by simp⟩
  rw [Try.params8] at hT0
  obtain ⟨k1, k2, hT⟩ := hT0
  replace k1 : 4 = vs.length := by simpa using k1
  replace k2 : 4 = ds.length := by simpa using k2
  obtain ⟨v0, vs0, rfl, k1_0⟩ := list_cons k1
  obtain ⟨v1, vs1, rfl, k1_1⟩ := list_cons k1_0
  obtain ⟨v2, vs2, rfl, k1_2⟩ := list_cons k1_1
  obtain ⟨v3, vs3, rfl, k1_3⟩ := list_cons k1_2
  obtain rfl := list_nil k1_3
  obtain ⟨d0, ds0, rfl, k2_0⟩ := list_cons k2
  obtain ⟨d1, ds1, rfl, k2_1⟩ := list_cons k2_0
  obtain ⟨d2, ds2, rfl, k2_2⟩ := list_cons k2_1
  obtain ⟨d3, ds3, rfl, k2_3⟩ := list_cons k2_2
  obtain rfl := list_nil k2_3
  have T0 : Ty Try.prog W 3 v0 := hT 0 3 v0 rfl rfl
  have T1 : Ty Try.prog W 22 v1 := hT 1 22 v1 rfl rfl
  have T2 : Ty Try.prog W 66 v2 := hT 2 66 v2 rfl rfl
  have T3 : Ty Try.prog W 67 v3 := hT 3 67 v3 rfl rfl
  clear hT hval0
  have walk : Spec Try.prog W 8 [v0, v1, v2, v3] [] (fun v _ => v = .bool true) := by
    clear hval hW' hV hA hfz hnd hcnd
    obtain ⟨room, rfl, _⟩ := ty_i64 T0
    obtain ⟨ak, ck, kinds, rfl, _, _, hkinds, hkb⟩ := ty_bytesB T1
    obtain ⟨a, c, ks, rfl, _, _, hks, _⟩ := ty_sliceF (f := keyV) (Q := fun _ => True) 2 Try.underlying66 (by kernel_rfl) (by decide) (fun fuel r h => inT_key h) T2
    obtain ⟨a', c', es, rfl, _, hes, her⟩ := ty_entsR T3
    by_cases hr : 0 ≤ room ∧ room ≤ 4
    · obtain ⟨n, rfl⟩ : ∃ n : Nat, room = (n : Int) := ⟨room.toNat, by omega⟩
      exact fun w' hO => (StlbPlays_ok W n (by omega) ak ck kinds hkinds hkb a c ks hks a' c' es hes her w' hO).mono fun e w'' ⟨v, B, h1, h2, h3⟩ => ⟨v, B, h1, h2.1, h3⟩
    · exact fun w' hO => (StlbPlays_no W room hr _ _ _ w' hO).mono fun e w'' ⟨v, B, h1, h2, h3⟩ => ⟨v, B, h1, h2.1, h3⟩
  refine (walk W (Own.refl W)).mono fun e W' h => ?_
  obtain ⟨v, B, rfl, rfl, hO⟩ := h
  have bel := hO.below
  exact ⟨_, rfl, _, _, _, [], _, [], hW', trodAll_mk1 (shut_bool Try.underlying4 _), below_trodAll laidOut bel _ _ _ _ (by kernel_rfl) hA, rfl, bel.frame _, fun h => by cases h⟩

theorem StlbPlays_over : Rows.stlbPlaysRow.holds Try.pinned (OpenSpec.ofChange Rows.stlbPlaysSpec) :=
  OpenClaim.holds_of_wide 8 Try.f8 rfl rfl rfl rfl rfl rfl rfl ⟨rfl, rfl, rfl, rfl, rfl⟩ rfl rfl rfl rfl rfl (by kernel_rfl) Try.func8 (by kernel_rfl)
    (of_decide_eq_true (by kernel_rfl)) (by unfold Func.isWrapper; first | (rw [if_pos (by decide +kernel)]; kernel_rfl) | (rw [if_neg (by decide +kernel)]; exact ⟨rfl, rfl⟩))
    (fun os started H enc _ => StlbPlays_lifted os started H enc)

/-- The statement. -/
theorem StlbPlays_holds : Rows.StlbPlaysSaid := StlbPlays_over
end Go.Proofs.Ytechkfopkpkigaa
