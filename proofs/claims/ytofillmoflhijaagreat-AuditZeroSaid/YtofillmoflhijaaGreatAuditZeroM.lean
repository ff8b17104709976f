/-
  The law AuditZero holds for every input. Conditions: none.
-/
import Derived.Test.YtofillmoflhijaaGreatAuditZeroD
namespace Go.Proofs.YtofillmoflhijaaGreat
open Go.Proofs.Tryz
set_option linter.unusedSimpArgs false
set_option linter.unusedVariables false
set_option maxRecDepth 20000
set_option linter.defProp false
set_option synthInstance.maxSize 8192
set_option synthInstance.maxHeartbeats 2000000
variable {W0 : World} {R : List HP}
section
open Go.ChangeShapes Go.WideShapes Go.ChangeAt Go.RowKit
set_option maxRecDepth 100000 in
theorem Et (os : Os) (started : os.Started) (H : Type) (enc : TypeId × Value → H) :
    ReturnsInHanded {} Tryz.checked os 3 .any (Rows.auditZeroSpec.pre6 enc Tryz.prog Tryz.f3 Rows.auditZeroRow.domain false) (Rows.auditZeroSpec.post enc Tryz.prog Tryz.f3 false true false false) := by
 refine returnsInHanded_of_change (C := Tryz.checked) own started (by kernel_rfl) xW
   (ChangeSpec.witness6 (enc := enc) (C := Tryz.checked) false ⟨#[], #[.int .i64 0], []⟩ 8 (by kernel_rfl) (by kernel_rfl) (by kernel_rfl) (by kernel_rfl)) ?_
 intro W base args ds gs before hval0 hW hcnd _
 have hval : ∀ (j : Nat) t v, Tryz.f3.params[j]? = some t → args[j]? = some v → Value.okWide Tryz.prog W .any base t v := hval0
 have hW' := hW
 obtain ⟨p, q, hA, hV, rfl, hfz, hnd⟩ := hW
 obtain ⟨rfl, rfl⟩ := trodVars_none hV
 have hT0 := uQ Tryz.f3.params.toList args.toList ds p (fun j t v ht hv => hval j t v (by simpa using ht) (by simpa using hv)) hA
 obtain ⟨vs, rfl⟩ : ∃ vs : List Value, args = vs.toArray := ⟨args.toList, by simp⟩
 rw [Tryz.params3] at hT0
 obtain ⟨k1, k2, hT⟩ := hT0
 replace k1 : 1 = vs.length := by simpa using k1
 replace k2 : 1 = ds.length := by simpa using k2
 obtain ⟨v0, vs0, rfl, k1_0⟩ := uN k1
 obtain rfl := uO k1_0
 obtain ⟨d0, ds0, rfl, k2_0⟩ := uN k2
 obtain rfl := uO k2_0
 have T0 : Ty Tryz.prog W 3 v0 := hT 0 3 v0 rfl rfl
 clear hT hval0
 have walk : ax Tryz.prog W 3 [v0] [] (fun v _ => v = .bool true) := by
  clear hval hW' hV hA hfz hnd hcnd
  obtain ⟨n0, rfl, _⟩ := Ay dF T0
  exact fun w' hO => (Er W n0 w' hO).mono fun e w'' ⟨v, B, h1, h2, h3⟩ => ⟨v, B, h1, h2.1, h3⟩
 refine (walk W (Own.refl W)).mono fun e W' h => ?_
 obtain ⟨v, B, rfl, rfl, hO⟩ := h
 have bel := hO.below
 exact ⟨_, rfl, _, _, _, [], _, [], hW', trodAll_mk1 (shut_bool xS _), uP Es bel _ _ _ _ (by kernel_rfl) hA, rfl, bel.frame _, fun h => by cases h⟩
theorem dp {a b : Bool} (h1 : a = true) (h2 : b = true := by as_aux_lemma => kernel_rfl) : (a && b) = true := by rw [h1, h2]; rfl
set_option maxHeartbeats 4000000 in
theorem Eu : joinedFacts Tryz.pinned.checked.prog 3 Tryz.f3 Rows.auditZeroSpec Rows.auditZeroRow = true := by
 unfold joinedFacts
 exact dp (dp (dp (dp (dp (dp (dp (dp (dp (dp (dp (dp (dp (dp (dp (dp (dp (dp (dp (dp (dp (dp (dp (dp (dp (dp (dp (dp (dp (dp (dp (by as_aux_lemma => kernel_rfl)))))))))))))))))))))))))))))))
theorem Ev : Rows.auditZeroRow.holds Tryz.pinned (OpenSpec.ofChange Rows.auditZeroSpec) :=
  OpenClaim.holds_of_wide 3 Tryz.f3 rfl rfl rfl rfl rfl rfl rfl ⟨rfl, rfl, rfl, rfl, rfl⟩ rfl rfl rfl rfl rfl (by as_aux_lemma => kernel_rfl) xW Eu
    (of_decide_eq_true (by as_aux_lemma => kernel_rfl)) (by as_aux_lemma => (unfold Func.isWrapper; first | (rw [if_pos (by decide +kernel)]; kernel_rfl) | (rw [if_neg (by decide +kernel)]; exact ⟨rfl, rfl⟩)))
    (fun os started H enc _ => Et os started H enc)
theorem AuditZero_holds : Rows.AuditZeroSaid := Ev
end
end Go.Proofs.YtofillmoflhijaaGreat
