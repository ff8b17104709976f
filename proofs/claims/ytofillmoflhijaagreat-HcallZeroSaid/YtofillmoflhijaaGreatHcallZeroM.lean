/-
  The law HcallZero holds for every input. Conditions: none.
-/
import Derived.Test.YtofillmoflhijaaGreatHcallZeroE
namespace Go.Proofs.YtofillmoflhijaaGreat
open Go.Proofs.Tryz
set_option linter.unusedSimpArgs false
set_option linter.unusedVariables false
set_option maxRecDepth 20000
set_option linter.defProp false
set_option synthInstance.maxSize 8192
set_option synthInstance.maxHeartbeats 2000000
variable {W0 : World} {R : List HP}
section
open Go.ChangeShapes Go.WideShapes Go.ChangeAt Go.RowKit
set_option maxRecDepth 100000 in
theorem Cu (os : Os) (started : os.Started) (H : Type) (enc : TypeId × Value → H) :
    ReturnsInHanded {} Tryz.checked os 5 .any (Rows.hcallZeroSpec.pre6 enc Tryz.prog Tryz.f5 Rows.hcallZeroRow.domain false) (Rows.hcallZeroSpec.post enc Tryz.prog Tryz.f5 false true false false) := by
 refine returnsInHanded_of_change (C := Tryz.checked) own started (by kernel_rfl) wz
   (ChangeSpec.witness6 (enc := enc) (C := Tryz.checked) false ⟨#[], #[.int .i64 0], []⟩ 8 (by kernel_rfl) (by kernel_rfl) (by kernel_rfl) (by kernel_rfl)) ?_
 intro W base args ds gs before hval0 hW hcnd _
 have hval : ∀ (j : Nat) t v, Tryz.f5.params[j]? = some t → args[j]? = some v → Value.okWide Tryz.prog W .any base t v := hval0
 have hW' := hW
 obtain ⟨p, q, hA, hV, rfl, hfz, hnd⟩ := hW
 obtain ⟨rfl, rfl⟩ := trodVars_none hV
 have hT0 := u6 Tryz.f5.params.toList args.toList ds p (fun j t v ht hv => hval j t v (by simpa using ht) (by simpa using hv)) hA
 obtain ⟨vs, rfl⟩ : ∃ vs : List Value, args = vs.toArray := ⟨args.toList, by simp⟩
 rw [Tryz.params5] at hT0
 obtain ⟨k1, k2, hT⟩ := hT0
 replace k1 : 1 = vs.length := by simpa using k1
 replace k2 : 1 = ds.length := by simpa using k2
 obtain ⟨v0, vs0, rfl, k1_0⟩ := u3 k1
 obtain rfl := u4 k1_0
 obtain ⟨d0, ds0, rfl, k2_0⟩ := u3 k2
 obtain rfl := u4 k2_0
 have T0 : Ty Tryz.prog W 3 v0 := hT 0 3 v0 rfl rfl
 clear hT hval0
 have walk : aC Tryz.prog W 5 [v0] [] (fun v _ => v = .bool true) := by
  clear hval hW' hV hA hfz hnd hcnd
  obtain ⟨n0, rfl, _⟩ := zo jx T0
  exact fun w' hO => (Cr W n0 w' hO).mono fun e w'' ⟨v, B, h1, h2, h3⟩ => ⟨v, B, h1, h2.1, h3⟩
 refine (walk W (Own.refl W)).mono fun e W' h => ?_
 obtain ⟨v, B, rfl, rfl, hO⟩ := h
 have bel := hO.below
 exact ⟨_, rfl, _, _, _, [], _, [], hW', trodAll_mk1 (shut_bool CI _), u5 Cs bel _ _ _ _ (by kernel_rfl) hA, rfl, bel.frame _, fun h => by cases h⟩
theorem dI {a b : Bool} (h1 : a = true) (h2 : b = true := by as_aux_lemma => kernel_rfl) : (a && b) = true := by rw [h1, h2]; rfl
set_option maxHeartbeats 4000000 in
theorem Cv : joinedFacts Tryz.pinned.checked.prog 5 Tryz.f5 Rows.hcallZeroSpec Rows.hcallZeroRow = true := by
 unfold joinedFacts
 exact dI (dI (dI (dI (dI (dI (dI (dI (dI (dI (dI (dI (dI (dI (dI (dI (dI (dI (dI (dI (dI (dI (dI (dI (dI (dI (dI (dI (dI (dI (dI (by as_aux_lemma => kernel_rfl)))))))))))))))))))))))))))))))
theorem Cw : Rows.hcallZeroRow.holds Tryz.pinned (OpenSpec.ofChange Rows.hcallZeroSpec) :=
  OpenClaim.holds_of_wide 5 Tryz.f5 rfl rfl rfl rfl rfl rfl rfl ⟨rfl, rfl, rfl, rfl, rfl⟩ rfl rfl rfl rfl rfl (by as_aux_lemma => kernel_rfl) wz Cv
    (of_decide_eq_true (by as_aux_lemma => kernel_rfl)) (by as_aux_lemma => (unfold Func.isWrapper; first | (rw [if_pos (by decide +kernel)]; kernel_rfl) | (rw [if_neg (by decide +kernel)]; exact ⟨rfl, rfl⟩)))
    (fun os started H enc _ => Cu os started H enc)
theorem HcallZero_holds : Rows.HcallZeroSaid := Cw
end
end Go.Proofs.YtofillmoflhijaaGreat
