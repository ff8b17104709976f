/-
  The law SightPlays holds for every input. Conditions: none.
-/
import Derived.Test.YtncegikenkpcmaaGreatSightPlaysD
namespace Go.Proofs.YtncegikenkpcmaaGreat
open Go.ChangeShapes Go.WideShapes Go.ChangeAt Go.RowKit
set_option linter.unusedSimpArgs false
set_option linter.unusedVariables false
set_option maxRecDepth 100000 in
theorem SightPlays_lifted (os : Os) (started : os.Started) (H : Type) (enc : TypeId × Value → H) :
    ReturnsInHanded {} Tryz.checked os 3 .any (Rows.sightPlaysSpec.pre6 enc Tryz.prog Tryz.f3 Rows.sightPlaysRow.domain false) (Rows.sightPlaysSpec.post enc Tryz.prog Tryz.f3 false true false false) := by
  refine returnsInHanded_of_change_sized (C := Tryz.checked) own started (by kernel_rfl) Tryz.func3
    (ChangeSpec.witness6 (enc := enc) (C := Tryz.checked) false ⟨#[], #[.agg #[.int .i64 0, .slice none 0 0, .slice none 0 0, .slice none 0 0, .slice none 0 0, .slice none 0 0, .int .i64 0, .int .i64 0], .agg #[.slice none 0 0, .slice none 0 0, .slice none 0 0], .agg #[.slice none 0 0, .slice none 0 0, .slice none 0 0], .int .i64 0], []⟩ 8 (by kernel_rfl) (by kernel_rfl) (by kernel_rfl) (by kernel_rfl)) ?_
  intro W base args ds gs before hval0 hW hcnd hR _
  have hval : ∀ (j : Nat) t v, Tryz.f3.params[j]? = some t → args[j]? = some v → Value.okWide Tryz.prog W .any base t v := hval0
  have hW' := hW
  obtain ⟨p, q, hA, hV, rfl, hfz, hnd⟩ := hW
  obtain ⟨rfl, rfl⟩ := trodVars_none hV
  have hT0 := ty_all Tryz.f3.params.toList args.toList ds p (fun j t v ht hv => hval j t v (by simpa using ht) (by simpa using hv)) hA
  obtain ⟨vs, rfl⟩ : ∃ vs : List Value, args = vs.toArray := ⟨args.toList, by simp⟩
  rw [Tryz.params3] at hT0
  obtain ⟨k1, k2, hT⟩ := hT0
  replace k1 : 4 = vs.length := by simpa using k1
  replace k2 : 4 = ds.length := by simpa using k2
  obtain ⟨v0, vs0, rfl, k1_0⟩ := list_cons k1
  obtain ⟨v1, vs1, rfl, k1_1⟩ := list_cons k1_0
  obtain ⟨v2, vs2, rfl, k1_2⟩ := list_cons k1_1
  obtain ⟨v3, vs3, rfl, k1_3⟩ := list_cons k1_2
  obtain rfl := list_nil k1_3
  obtain ⟨d0, ds0, rfl, k2_0⟩ := list_cons k2
  obtain ⟨d1, ds1, rfl, k2_1⟩ := list_cons k2_0
  obtain ⟨d2, ds2, rfl, k2_2⟩ := list_cons k2_1
  obtain ⟨d3, ds3, rfl, k2_3⟩ := list_cons k2_2
  obtain rfl := list_nil k2_3
  have T0 : Ty Tryz.prog W 28 v0 := hT 0 28 v0 rfl rfl
  have T1 : Ty Tryz.prog W 33 v1 := hT 1 33 v1 rfl rfl
  have T2 : Ty Tryz.prog W 33 v2 := hT 2 33 v2 rfl rfl
  have T3 : Ty Tryz.prog W 3 v3 := hT 3 3 v3 rfl rfl
  have hZ := sz_all Tryz.f3.params.toList _ _ _ (sz_of hR (by simp [Tryz.params3])) hA
  have Z0 : ∃ fuel, SzT Tryz.prog W fuel 28 v0.cells.toList := hZ 0 28 v0 rfl rfl
  have Z1 : ∃ fuel, SzT Tryz.prog W fuel 33 v1.cells.toList := hZ 1 33 v1 rfl rfl
  have Z2 : ∃ fuel, SzT Tryz.prog W fuel 33 v2.cells.toList := hZ 2 33 v2 rfl rfl
  have Z3 : ∃ fuel, SzT Tryz.prog W fuel 3 v3.cells.toList := hZ 3 3 v3 rfl rfl
  clear hZ hR
  clear hT hval0
  have walk : Spec Tryz.prog W 3 [v0, v1, v2, v3] [] (fun v _ => v = .bool true) := by
    clear hval hW' hV hA hfz hnd hcnd
    obtain ⟨c, rfl, hc⟩ := ty_cfg T0
    obtain ⟨a, rfl, ha, za⟩ := ty_scrZ T1 Z1
    obtain ⟨b, rfl, hb, zb⟩ := ty_scrZ T2 Z2
    obtain ⟨l, rfl, hl⟩ := ty_i64 T3
    exact fun w' hO => (SightPlays_walk W c hc a b ha hb za zb l w' hO).mono fun e w'' ⟨v, B, h1, h2, h3⟩ => ⟨v, B, h1, h2.1, h3⟩
  refine (walk W (Own.refl W)).mono fun e W' h => ?_
  obtain ⟨v, B, rfl, rfl, hO⟩ := h
  have bel := hO.below
  exact ⟨_, rfl, _, _, _, [], _, [], hW', trodAll_mk1 (shut_bool Tryz.underlying4 _), below_trodAll laidOut bel _ _ _ _ (by kernel_rfl) hA, rfl, bel.frame _, fun h => by cases h⟩
theorem SightPlays_over : Rows.sightPlaysRow.holds Tryz.pinned (OpenSpec.ofChange Rows.sightPlaysSpec) :=
  OpenClaim.holds_of_wide 3 Tryz.f3 rfl rfl rfl rfl rfl rfl rfl ⟨rfl, rfl, rfl, rfl, rfl⟩ rfl rfl rfl rfl rfl (by kernel_rfl) Tryz.func3 (by kernel_rfl)
    (of_decide_eq_true (by kernel_rfl)) (by unfold Func.isWrapper; first | (rw [if_pos (by decide +kernel)]; kernel_rfl) | (rw [if_neg (by decide +kernel)]; exact ⟨rfl, rfl⟩))
    (fun os started H enc _ => SightPlays_lifted os started H enc)
theorem SightPlays_holds : Rows.SightPlaysSaid := SightPlays_over
end Go.Proofs.YtncegikenkpcmaaGreat
