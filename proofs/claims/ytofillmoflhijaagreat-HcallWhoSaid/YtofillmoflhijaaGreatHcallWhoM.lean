/-
  The law HcallWho holds for every input. Conditions: none.
-/
import Derived.Test.YtofillmoflhijaaGreatHcallWhoE
namespace Go.Proofs.YtofillmoflhijaaGreat
open Go.Proofs.Tryz
set_option linter.unusedSimpArgs false
set_option linter.unusedVariables false
set_option maxRecDepth 20000
set_option linter.defProp false
set_option synthInstance.maxSize 8192
set_option synthInstance.maxHeartbeats 2000000
variable {W0 : World} {R : List HP}
section
open Go.ChangeShapes Go.WideShapes Go.ChangeAt Go.RowKit
set_option maxRecDepth 100000 in
theorem Fb (os : Os) (started : os.Started) (H : Type) (enc : TypeId × Value → H) :
    ReturnsInHanded {} Tryz.checked os 4 .any (Rows.hcallWhoSpec.pre6 enc Tryz.prog Tryz.f4 Rows.hcallWhoRow.domain false) (Rows.hcallWhoSpec.post enc Tryz.prog Tryz.f4 false true false false) := by
 refine returnsInHanded_of_change (C := Tryz.checked) own started (by kernel_rfl) tG
   (ChangeSpec.witness6 (enc := enc) (C := Tryz.checked) false ⟨#[], #[.agg #[.int .i64 0, .slice none 0 0, .slice none 0 0, .slice none 0 0, .slice none 0 0, .slice none 0 0, .int .i64 0, .int .i64 0], .int .u8 0, .int .u8 0, .agg #[.int .u32 0, .int .u32 0, .int .u32 0, .int .u32 0]], []⟩ 8 (by kernel_rfl) (by kernel_rfl) (by kernel_rfl) (by kernel_rfl)) ?_
 intro W base args ds gs before hval0 hW hcnd _
 have hval : ∀ (j : Nat) t v, Tryz.f4.params[j]? = some t → args[j]? = some v → Value.okWide Tryz.prog W .any base t v := hval0
 have hW' := hW
 obtain ⟨p, q, hA, hV, rfl, hfz, hnd⟩ := hW
 obtain ⟨rfl, rfl⟩ := trodVars_none hV
 have hT0 := vL Tryz.f4.params.toList args.toList ds p (fun j t v ht hv => hval j t v (by simpa using ht) (by simpa using hv)) hA
 obtain ⟨vs, rfl⟩ : ∃ vs : List Value, args = vs.toArray := ⟨args.toList, by simp⟩
 rw [Tryz.params4] at hT0
 obtain ⟨k1, k2, hT⟩ := hT0
 replace k1 : 4 = vs.length := by simpa using k1
 replace k2 : 4 = ds.length := by simpa using k2
 obtain ⟨v0, vs0, rfl, k1_0⟩ := jX k1
 obtain ⟨v1, vs1, rfl, k1_1⟩ := jX k1_0
 obtain ⟨v2, vs2, rfl, k1_2⟩ := jX k1_1
 obtain ⟨v3, vs3, rfl, k1_3⟩ := jX k1_2
 obtain rfl := vJ k1_3
 obtain ⟨d0, ds0, rfl, k2_0⟩ := jX k2
 obtain ⟨d1, ds1, rfl, k2_1⟩ := jX k2_0
 obtain ⟨d2, ds2, rfl, k2_2⟩ := jX k2_1
 obtain ⟨d3, ds3, rfl, k2_3⟩ := jX k2_2
 obtain rfl := vJ k2_3
 have T0 : Ty Tryz.prog W 29 v0 := hT 0 29 v0 rfl rfl
 have T1 : Ty Tryz.prog W 5 v1 := hT 1 5 v1 rfl rfl
 have T2 : Ty Tryz.prog W 5 v2 := hT 2 5 v2 rfl rfl
 have T3 : Ty Tryz.prog W 43 v3 := hT 3 43 v3 rfl rfl
 clear hT hval0
 have walk : aC Tryz.prog W 4 [v0, v1, v2, v3] [] (fun v _ => v = .bool true) := by
  clear hval hW' hV hA hfz hnd hcnd
  obtain ⟨c, rfl, hc⟩ := Fa T0
  obtain ⟨n1, rfl, h1⟩ := xw T1
  obtain ⟨n2, rfl, h2⟩ := xw T2
  obtain ⟨x0, x1, x2, x3, rfl, hx⟩ := F3 T3
  exact fun w' hO => (EX W c ⟨hc.1, hc.2⟩ n1 n2 x0 x1 x2 x3 h1 hx h2 w' hO).mono fun e w'' ⟨v, B, h1, h2, h3⟩ => ⟨v, B, h1, h2.1, h3⟩
 refine (walk W (Own.refl W)).mono fun e W' h => ?_
 obtain ⟨v, B, rfl, rfl, hO⟩ := h
 have bel := hO.below
 exact ⟨_, rfl, _, _, _, [], _, [], hW', trodAll_mk1 (shut_bool pW _), vK EY bel _ _ _ _ (by kernel_rfl) hA, rfl, bel.frame _, fun h => by cases h⟩
theorem dU {a b : Bool} (h1 : a = true) (h2 : b = true := by as_aux_lemma => kernel_rfl) : (a && b) = true := by rw [h1, h2]; rfl
set_option maxHeartbeats 4000000 in
theorem Fc : joinedFacts Tryz.pinned.checked.prog 4 Tryz.f4 Rows.hcallWhoSpec Rows.hcallWhoRow = true := by
 unfold joinedFacts
 exact dU (dU (dU (dU (dU (dU (dU (dU (dU (dU (dU (dU (dU (dU (dU (dU (dU (dU (dU (dU (dU (dU (dU (dU (dU (dU (dU (dU (dU (dU (dU (by as_aux_lemma => kernel_rfl)))))))))))))))))))))))))))))))
theorem Fe : Rows.hcallWhoRow.holds Tryz.pinned (OpenSpec.ofChange Rows.hcallWhoSpec) :=
  OpenClaim.holds_of_wide 4 Tryz.f4 rfl rfl rfl rfl rfl rfl rfl ⟨rfl, rfl, rfl, rfl, rfl⟩ rfl rfl rfl rfl rfl (by as_aux_lemma => kernel_rfl) tG Fc
    (of_decide_eq_true (by as_aux_lemma => kernel_rfl)) (by as_aux_lemma => (unfold Func.isWrapper; first | (rw [if_pos (by decide +kernel)]; kernel_rfl) | (rw [if_neg (by decide +kernel)]; exact ⟨rfl, rfl⟩)))
    (fun os started H enc _ => Fb os started H enc)
theorem HcallWho_holds : Rows.HcallWhoSaid := Fe
end
end Go.Proofs.YtofillmoflhijaaGreat
