/-
  The law BlkServes holds for every input. Conditions: none.
-/
import Derived.Test.YtncegikenkpcmaaGreatBlkServesF
namespace Go.Proofs.YtncegikenkpcmaaGreat
open Go.ChangeShapes Go.WideShapes Go.ChangeAt Go.RowKit
set_option linter.unusedSimpArgs false
set_option linter.unusedVariables false
theorem inT_rgnB {W : World} {fuel : Nat} {l : List Value} (h : InT Tryz.prog W fuel 151 l) : ∃ x : Rn, l = rgnV x ∧ (-9223372036854775808 ≤ x.2.1 ∧ x.2.1 < 9223372036854775808) := by
  obtain ⟨hl, f', hf⟩ := inT_struct Tryz.underlying151 h
  obtain ⟨a, b, c, rfl⟩ := list3b (hl.trans (by kernel_rfl))
  have h0 := hf _ (List.mem_cons_self ..)
  have h1 := hf _ (List.mem_cons_of_mem _ (List.mem_cons_self ..))
  have h2 := hf _ (List.mem_cons_of_mem _ (List.mem_cons_of_mem _ (List.mem_cons_self ..)))
  rw [show Tryz.prog.cellsOf 3 = 1 by kernel_rfl] at h0 h1 h2
  obtain ⟨x0, e0, _⟩ := inT_int Tryz.underlying3 h0
  obtain ⟨x1, e1, q1⟩ := inT_int Tryz.underlying3 h1
  obtain ⟨x2, e2, _⟩ := inT_int Tryz.underlying3 h2
  simp at e0 e1 e2
  exact ⟨(x0, x1, x2), by rw [e0, e1, e2]; rfl, wf_i64 q1⟩
theorem ty_rgnsB {W : World} {v : Value} (h : Ty Tryz.prog W 23 v) : ∃ a c xs, v = .slice a (List.length (α := Rn) xs) c ∧ xs.length < 9223372036854775808 ∧ SlB W a 3 rgnV xs ∧ ∀ x ∈ xs, (-9223372036854775808 ≤ x.2.1 ∧ x.2.1 < 9223372036854775808) := by
  obtain ⟨a, c, xs, rfl, h1, h2, h3, h4⟩ := ty_sliceF (f := rgnV) (Q := fun x => -9223372036854775808 ≤ x.2.1 ∧ x.2.1 < 9223372036854775808) 3 Tryz.underlying23 (by kernel_rfl) (by decide) (fun fuel r h => inT_rgnB h) h
  exact ⟨a, c, xs, rfl, by simp only [maxLen] at h2; omega, h3, h4⟩
set_option maxRecDepth 100000 in
theorem BlkServes_lifted (os : Os) (started : os.Started) (H : Type) (enc : TypeId × Value → H) :
    ReturnsInHanded {} Tryz.checked os 4 .any (Rows.blkServesSpec.pre6 enc Tryz.prog Tryz.f4 Rows.blkServesRow.domain false) (Rows.blkServesSpec.post enc Tryz.prog Tryz.f4 false true false false) := by
  refine returnsInHanded_of_change (C := Tryz.checked) own started (by kernel_rfl) Tryz.func4
    (ChangeSpec.witness6 (enc := enc) (C := Tryz.checked) false ⟨#[], #[.agg #[.slice none 0 0, .slice none 0 0, .slice none 0 0, .slice none 0 0, .int .u32 0], .slice none 0 0, .slice none 0 0, .int .i64 0, .slice none 0 0], []⟩ 8 (by kernel_rfl) (by kernel_rfl) (by kernel_rfl) (by kernel_rfl)) ?_
  intro W base args ds gs before hval0 hW hcnd _
  have hval : ∀ (j : Nat) t v, Tryz.f4.params[j]? = some t → args[j]? = some v → Value.okWide Tryz.prog W .any base t v := hval0
  have hW' := hW
  obtain ⟨p, q, hA, hV, rfl, hfz, hnd⟩ := hW
  obtain ⟨rfl, rfl⟩ := trodVars_none hV
  have hT0 := ty_all Tryz.f4.params.toList args.toList ds p (fun j t v ht hv => hval j t v (by simpa using ht) (by simpa using hv)) hA
  obtain ⟨vs, rfl⟩ : ∃ vs : List Value, args = vs.toArray := ⟨args.toList, by simp⟩
  rw [Tryz.params4] at hT0
  obtain ⟨k1, k2, hT⟩ := hT0
  replace k1 : 5 = vs.length := by simpa using k1
  replace k2 : 5 = ds.length := by simpa using k2
  obtain ⟨v0, vs0, rfl, k1_0⟩ := list_cons k1
  obtain ⟨v1, vs1, rfl, k1_1⟩ := list_cons k1_0
  obtain ⟨v2, vs2, rfl, k1_2⟩ := list_cons k1_1
  obtain ⟨v3, vs3, rfl, k1_3⟩ := list_cons k1_2
  obtain ⟨v4, vs4, rfl, k1_4⟩ := list_cons k1_3
  obtain rfl := list_nil k1_4
  obtain ⟨d0, ds0, rfl, k2_0⟩ := list_cons k2
  obtain ⟨d1, ds1, rfl, k2_1⟩ := list_cons k2_0
  obtain ⟨d2, ds2, rfl, k2_2⟩ := list_cons k2_1
  obtain ⟨d3, ds3, rfl, k2_3⟩ := list_cons k2_2
  obtain ⟨d4, ds4, rfl, k2_4⟩ := list_cons k2_3
  obtain rfl := list_nil k2_4
  have T0 : Ty Tryz.prog W 49 v0 := hT 0 49 v0 rfl rfl
  have T1 : Ty Tryz.prog W 23 v1 := hT 1 23 v1 rfl rfl
  have T2 : Ty Tryz.prog W 50 v2 := hT 2 50 v2 rfl rfl
  have T3 : Ty Tryz.prog W 3 v3 := hT 3 3 v3 rfl rfl
  have T4 : Ty Tryz.prog W 45 v4 := hT 4 45 v4 rfl rfl
  clear hT hval0
  have walk : Spec Tryz.prog W 4 [v0, v1, v2, v3, v4] [] (fun v _ => v = .bool true) := by
    clear hval hW' hV hA hfz hnd hcnd
    obtain ⟨g, rfl, hg⟩ := ty_guest25 T0
    obtain ⟨a, c, rs, rfl, hl, hrs, hrb⟩ := ty_rgnsB T1
    obtain ⟨af, cf, fs, rfl, hfl, hfs, hfz⟩ := ty_strs T2
    obtain ⟨who, rfl, hw⟩ := ty_i64 T3
    obtain ⟨ag, cg, ags, rfl, hal, hag, hab⟩ := ty_u32n T4
    cases hN : dkNew rs with
    | none => exact fun w' hO => (BlkServes_none W g hg a c rs hrs hl hrb af ag cf cg fs.length ags.length who hN w' hO).mono fun e w'' ⟨v, B, h1, h2, h3⟩ => ⟨v, B, h1, h2.1, h3⟩
    | some k => exact fun w' hO => (BlkServes_some W g hg a c rs hrs hl hrb af cf fs hfs hfl hfz who ag cg ags hag hab hal k hN w' hO).mono fun e w'' ⟨v, B, h1, h2, h3⟩ => ⟨v, B, h1, h2.1, h3⟩
  refine (walk W (Own.refl W)).mono fun e W' h => ?_
  obtain ⟨v, B, rfl, rfl, hO⟩ := h
  have bel := hO.below
  exact ⟨_, rfl, _, _, _, [], _, [], hW', trodAll_mk1 (shut_bool Tryz.underlying4 _), below_trodAll laidOut bel _ _ _ _ (by kernel_rfl) hA, rfl, bel.frame _, fun h => by cases h⟩
theorem BlkServes_over : Rows.blkServesRow.holds Tryz.pinned (OpenSpec.ofChange Rows.blkServesSpec) :=
  OpenClaim.holds_of_wide 4 Tryz.f4 rfl rfl rfl rfl rfl rfl rfl ⟨rfl, rfl, rfl, rfl, rfl⟩ rfl rfl rfl rfl rfl (by kernel_rfl) Tryz.func4 (by kernel_rfl)
    (of_decide_eq_true (by kernel_rfl)) (by unfold Func.isWrapper; first | (rw [if_pos (by decide +kernel)]; kernel_rfl) | (rw [if_neg (by decide +kernel)]; exact ⟨rfl, rfl⟩))
    (fun os started H enc _ => BlkServes_lifted os started H enc)
theorem BlkServes_holds : Rows.BlkServesSaid := BlkServes_over
end Go.Proofs.YtncegikenkpcmaaGreat
