/-
  The law MmuZero holds: one that nobody made. Conditions: none.
-/
import Derived.Test.YtlnmofhehcilhaaGreatDoorRows
import Derived.Test.YtlnmofhehcilhaaGreatDoorCards
import Derived.Test.YtlnmofhehcilhaaGreatDoorTie
import Derived.SevenTiedAt
import Derived.LaidMore
import Derived.OpenShut
import Derived.Stop.Joined
import Derived.Test.YtlnmofhehcilhaaGreatDoorMmuZ
import Derived.Test.YtlnmofhehcilhaaGreatDoorFrame
import Derived.Test.YtlnmofhehcilhaaGreatDoorFrameMode
import Derived.Test.YtlnmofhehcilhaaGreatDoorFrameBytes
namespace Go.Proofs.YtlnmofhehcilhaaGreatDoor
open Go.ChangeShapes Go.WideShapes Go.ChangeAt Go.RowKit
set_option linter.unusedSimpArgs false
set_option linter.unusedVariables false

def mmuZeroLaid : List (String × DataW Unit) := [("hermitage/mmu.kinds", Rows.laid_hermitage_mmu_kinds)]
theorem mmuZero_door (os : Os) (args : Array Value) : laidMetH Tryz.prog mmuZeroLaid ((World.doorLaid Tryz.prog 400 os).forCall (fun _ _ => 0) ⟨#[], args, []⟩).memory :=
  laidMetH_of_parts3 (fuel := 8) (laidMet_of_run' 8 (by kernel_rfl) (by kernel_rfl)) (by kernel_rfl) (by kernel_rfl)
set_option maxRecDepth 100000 in
theorem MmuZero_lifted (os : Os) (started : os.Started) (H : Type) (enc : TypeId × Value → H) :
    ReturnsInHanded {} Tryz.checked os 4 .any (fun w args => (Rows.mmuZeroSpec.pre enc Tryz.prog Tryz.f4 [] false w args ∧ laidMetH Tryz.prog mmuZeroLaid w) ∧ sizedMet enc Tryz.prog Tryz.f4 (OpenSpec.ofChange Rows.mmuZeroSpec) false w args) (Rows.mmuZeroSpec.post enc Tryz.prog Tryz.f4 false true false false) := by
  refine returnsInHanded_of_change_and (C := Tryz.checked) (X := fun w _ => laidMetH Tryz.prog mmuZeroLaid w) (fun _ _ _ hh h => h.of_heap hh) own started (by kernel_rfl) Tryz.func4
    (ChangeSpec.witness_shaped (enc := enc) (C := Tryz.checked) (os := os) (X := fun w _ => laidMetH Tryz.prog mmuZeroLaid w) false (World.doorLaid Tryz.prog 400 os) #[.agg #[.bool false, .int .i64 0, .bool false], .int .u32 0, .int .i64 0, .int .i64 0, .int .u32 0] 8 rfl (World.shaped_of_RefB (by kernel_rfl) (by kernel_rfl)) (by kernel_rfl) (by kernel_rfl) (by kernel_rfl) (mmuZero_door os _)) ?_
  intro W base args ds gs before hval0 hW hcnd _ hL _
  have hval : ∀ (j : Nat) t v, Tryz.f4.params[j]? = some t → args[j]? = some v → Value.okWide Tryz.prog W .any base t v := hval0
  have hW' := hW
  obtain ⟨p, q, hA, hV, rfl, hfz, hnd⟩ := hW
  obtain ⟨rfl, rfl⟩ := trodVars_none hV
  have hT0 := ty_all Tryz.f4.params.toList args.toList ds p (fun j t v ht hv => hval j t v (by simpa using ht) (by simpa using hv)) hA
  obtain ⟨vs, rfl⟩ : ∃ vs : List Value, args = vs.toArray := ⟨args.toList, by simp⟩
  rw [Tryz.params4] at hT0
  obtain ⟨k1, k2, hT⟩ := hT0
  replace k1 : 5 = vs.length := by simpa using k1
  replace k2 : 5 = ds.length := by simpa using k2
  obtain ⟨v0, vs0, rfl, k1_0⟩ := list_cons k1
  obtain ⟨v1, vs1, rfl, k1_1⟩ := list_cons k1_0
  obtain ⟨v2, vs2, rfl, k1_2⟩ := list_cons k1_1
  obtain ⟨v3, vs3, rfl, k1_3⟩ := list_cons k1_2
  obtain ⟨v4, vs4, rfl, k1_4⟩ := list_cons k1_3
  obtain rfl := list_nil k1_4
  obtain ⟨d0, ds0, rfl, k2_0⟩ := list_cons k2
  obtain ⟨d1, ds1, rfl, k2_1⟩ := list_cons k2_0
  obtain ⟨d2, ds2, rfl, k2_2⟩ := list_cons k2_1
  obtain ⟨d3, ds3, rfl, k2_3⟩ := list_cons k2_2
  obtain ⟨d4, ds4, rfl, k2_4⟩ := list_cons k2_3
  obtain rfl := list_nil k2_4
  have T0 : Ty Tryz.prog W 30 v0 := hT 0 30 v0 rfl rfl
  have T1 : Ty Tryz.prog W 31 v1 := hT 1 31 v1 rfl rfl
  have T2 : Ty Tryz.prog W 3 v2 := hT 2 3 v2 rfl rfl
  have T3 : Ty Tryz.prog W 3 v3 := hT 3 3 v3 rfl rfl
  have T4 : Ty Tryz.prog W 31 v4 := hT 4 31 v4 rfl rfl
  clear hT hval0
  have walk : Spec Tryz.prog W 4 [v0, v1, v2, v3, v4] [] (fun v _ => v = .bool true) := by
    clear hval hW' hV hA hfz hnd hcnd
    obtain ⟨on, root, user, rfl⟩ := ty_moded T0
    obtain ⟨va, rfl, hva⟩ := ty_u32 T1
    obtain ⟨width, rfl, hw⟩ := ty_i64 T2
    obtain ⟨kind, rfl, hk⟩ := ty_i64 T3
    obtain ⟨w, rfl, hw2⟩ := ty_u32 T4
    exact fun w' hO => (MmuZero_walk W on user root va width kind w w' hO).mono fun e w'' ⟨v, B, h1, h2, h3⟩ => ⟨v, B, h1, h2.1, h3⟩
  refine (walk W (Own.refl W)).mono fun e W' h => ?_
  obtain ⟨v, B, rfl, rfl, hO⟩ := h
  have bel := hO.below
  exact ⟨_, rfl, _, _, _, [], _, [], hW', trodAll_mk1 (shut_bool Tryz.underlying4 _), below_trodAll laidOut bel _ _ _ _ (by kernel_rfl) hA, rfl, bel.frame _, fun h => by cases h⟩

theorem MmuZero_over : Rows.mmuZeroRow.holds Tryz.pinned (OpenSpec.ofChange Rows.mmuZeroSpec) :=
  OpenClaim.holds_of_wide 4 Tryz.f4 rfl rfl rfl rfl rfl rfl rfl ⟨rfl, rfl, rfl, rfl, rfl⟩ rfl rfl rfl rfl rfl (by kernel_rfl) Tryz.func4 (by kernel_rfl)
    (of_decide_eq_true (by kernel_rfl)) (by unfold Func.isWrapper; first | (rw [if_pos (by decide +kernel)]; kernel_rfl) | (rw [if_neg (by decide +kernel)]; exact ⟨rfl, rfl⟩))
    (fun os started H enc _ => MmuZero_lifted os started H enc)

/-- The statement. -/
theorem MmuZero_holds : Rows.MmuZeroCardSaid :=
  Claim7.holds_tied_plain_at .later [] [.data] true (true, "bfaa2890ee586786e44e5eb0fa0cb3b41b73927b5ca9ebc1c396c987b8416ccc") true
    MmuZero_over (fun _ h => by cases h) (by kernel_rfl) (fun _ h => by cases h) mmuZero_row_tie rfl ⟨rfl, rfl⟩ (by kernel_rfl) rfl
    (fun f fn hf hfn => by
      obtain rfl : f = 4 := Option.some.inj ((show Tryz.prog.funcNamed "hermitage/hermitagelaw20.MmuZero" = some 4 by kernel_rfl).symm.trans hf) |>.symm
      obtain rfl : fn = Tryz.f4 := (Option.some.inj (Tryz.func4.symm.trans hfn)).symm
      exact ⟨by kernel_rfl, fun j t ht => by
        have hall : Tryz.f4.params.toList.all (fun t => !Tryz.prog.wantsStandIn t) = true := by kernel_rfl
        have hm : t ∈ Tryz.f4.params.toList := List.mem_of_getElem? (i := j) (by simpa using ht)
        have := List.all_eq_true.1 hall t hm
        have h2 : Tryz.prog.wantsStandIn t = false := by simpa using this
        exact h2⟩)
    (by kernel_rfl)
end Go.Proofs.YtlnmofhehcilhaaGreatDoor
