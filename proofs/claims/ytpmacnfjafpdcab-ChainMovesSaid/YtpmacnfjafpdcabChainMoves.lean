/-
  The law ChainMoves holds: which bytes are gathered of any descriptors, and how many are scattered into them, where, for every input. Conditions: none.
-/
import Derived.Test.YtpmacnfjafpdcabRows
import Derived.Test.YtpmacnfjafpdcabChainLawC
import Derived.Test.YtpmacnfjafpdcabFrameChain
import Derived.Test.YtpmacnfjafpdcabFrameBytes
namespace Go.Proofs.Ytpmacnfjafpdcab
open Go.ChangeShapes Go.WideShapes Go.ChangeAt Go.RowKit
set_option linter.unusedSimpArgs false
set_option linter.unusedVariables false

theorem list2m {l : List Value} (h : l.length = 2) : ∃ a b, l = [a, b] := by
  match l, h with
  | [a, b], _ => exact ⟨a, b, rfl⟩
theorem inT_put22 {W : World} {fuel : Nat} {l : List Value} (h : InT Try.prog W fuel 90 l) : ∃ t : Pt22, l = pt22V t ∧ Pt22Ok (OwnP W []) t := by
  obtain ⟨hl, f', hf⟩ := inT_struct Try.underlying90 h
  obtain ⟨x0, x1, rfl⟩ := list2m (hl.trans (by kernel_rfl))
  have h0 := hf _ (List.mem_cons_self ..)
  have h1 := hf _ (List.mem_cons_of_mem _ (List.mem_cons_self ..))
  rw [show Try.prog.cellsOf 28 = 1 by kernel_rfl] at h0
  rw [show Try.prog.cellsOf 22 = 1 by kernel_rfl] at h1
  obtain ⟨y0, e0, g0⟩ := inT_u32c h0
  obtain ⟨a, c, bs, e1, g1, g2, g3⟩ := inT_bytesB h1
  simp at e0 e1
  exact ⟨⟨y0, a, bs, c⟩, by rw [e0, e1], g0, g3, g1, sla_base g2⟩
theorem ty_puts22 {W : World} {v : Value} (h : Ty Try.prog W 55 v) : ∃ a c xs, v = .slice a (List.length (α := Pt22) xs) c ∧ xs.length < 9223372036854775808 ∧ SlB W a 2 pt22V xs ∧ ∀ t ∈ xs, Pt22Ok (OwnP W []) t := by
  obtain ⟨a, c, xs, rfl, h1, h2, h3, h4⟩ := ty_sliceF (f := pt22V) (Q := Pt22Ok (OwnP W [])) 2 Try.underlying55 (by kernel_rfl) (by decide) (fun fuel r h => inT_put22 h) h
  exact ⟨a, c, xs, rfl, by simp only [maxLen] at h2; omega, h3, h4⟩

set_option maxRecDepth 100000 in
theorem ChainMoves_lifted (os : Os) (started : os.Started) (H : Type) (enc : TypeId × Value → H) :
    ReturnsInHanded {} Try.checked os 6 .any (Rows.chainMovesSpec.pre6 enc Try.prog Try.f6 Rows.chainMovesRow.domain false) (Rows.chainMovesSpec.post enc Try.prog Try.f6 false true false false) := by
  refine returnsInHanded_of_change (C := Try.checked) own started (by kernel_rfl) Try.func6
    (ChangeSpec.witness6 (enc := enc) (C := Try.checked) false ⟨#[], #[.int .u8 0, .slice none 0 0, .slice none 0 0, .int .i64 0, .int .i64 0, .slice none 0 0], []⟩ 8 (by kernel_rfl) (by kernel_rfl) (by kernel_rfl) (by kernel_rfl)) ?_
  intro W base args ds gs before hval0 hW hcnd _
  have hval : ∀ (j : Nat) t v, Try.f6.params[j]? = some t → args[j]? = some v → Value.okWide Try.prog W .any base t v := hval0
  have hW' := hW
  obtain ⟨p, q, hA, hV, rfl, hfz, hnd⟩ := hW
  obtain ⟨rfl, rfl⟩ := trodVars_none hV
  have hT0 := ty_all Try.f6.params.toList args.toList ds p (fun j t v ht hv => hval j t v (by simpa using ht) (by simpa using hv)) hA
  obtain ⟨vs, rfl⟩ : ∃ vs : List Value, args = vs.toArray := ⟨args.toList, by simp⟩
  rw [Try.params6] at hT0
  obtain ⟨k1, k2, hT⟩ := hT0
  replace k1 : 6 = vs.length := by simpa using k1
  replace k2 : 6 = ds.length := by simpa using k2
  obtain ⟨v0, vs0, rfl, k1_0⟩ := list_cons k1
  obtain ⟨v1, vs1, rfl, k1_1⟩ := list_cons k1_0
  obtain ⟨v2, vs2, rfl, k1_2⟩ := list_cons k1_1
  obtain ⟨v3, vs3, rfl, k1_3⟩ := list_cons k1_2
  obtain ⟨v4, vs4, rfl, k1_4⟩ := list_cons k1_3
  obtain ⟨v5, vs5, rfl, k1_5⟩ := list_cons k1_4
  obtain rfl := list_nil k1_5
  obtain ⟨d0, ds0, rfl, k2_0⟩ := list_cons k2
  obtain ⟨d1, ds1, rfl, k2_1⟩ := list_cons k2_0
  obtain ⟨d2, ds2, rfl, k2_2⟩ := list_cons k2_1
  obtain ⟨d3, ds3, rfl, k2_3⟩ := list_cons k2_2
  obtain ⟨d4, ds4, rfl, k2_4⟩ := list_cons k2_3
  obtain ⟨d5, ds5, rfl, k2_5⟩ := list_cons k2_4
  obtain rfl := list_nil k2_5
  have T0 : Ty Try.prog W 5 v0 := hT 0 5 v0 rfl rfl
  have T1 : Ty Try.prog W 27 v1 := hT 1 27 v1 rfl rfl
  have T2 : Ty Try.prog W 55 v2 := hT 2 55 v2 rfl rfl
  have T3 : Ty Try.prog W 3 v3 := hT 3 3 v3 rfl rfl
  have T4 : Ty Try.prog W 3 v4 := hT 4 3 v4 rfl rfl
  have T5 : Ty Try.prog W 22 v5 := hT 5 22 v5 rfl rfl
  clear hT hval0
  have walk : Spec Try.prog W 6 [v0, v1, v2, v3, v4, v5] [] (fun v _ => v = .bool true) := by
    clear hval hW' hV hA hfz hnd hcnd
    obtain ⟨gone, rfl, hg⟩ := ty_u8 T0
    obtain ⟨al, cl, l, rfl, hll, hs, hl⟩ := ty_descs T1
    obtain ⟨ap, cp, ts, rfl, hl2, hts, htok⟩ := ty_puts22 T2
    obtain ⟨most, rfl, hm⟩ := ty_i64 T3
    obtain ⟨from_, rfl, hf⟩ := ty_i64 T4
    obtain ⟨ab, cb, bs, rfl, hbl, hcb, hsb, hb⟩ := ty_bytesB T5
    exact fun w' hO => (ChainMoves_walk W gone hg al ap ab cl cp cb l ts bs most from_ hs hl hll hts htok hl2 hsb hb hbl hcb hm hf w' hO).mono fun e w'' ⟨v, B, h1, h2, h3⟩ => ⟨v, B, h1, h2.1, h3⟩
  refine (walk W (Own.refl W)).mono fun e W' h => ?_
  obtain ⟨v, B, rfl, rfl, hO⟩ := h
  have bel := hO.below
  exact ⟨_, rfl, _, _, _, [], _, [], hW', trodAll_mk1 (shut_bool Try.underlying4 _), below_trodAll laidOut bel _ _ _ _ (by kernel_rfl) hA, rfl, bel.frame _, fun h => by cases h⟩

theorem ChainMoves_over : Rows.chainMovesRow.holds Try.pinned (OpenSpec.ofChange Rows.chainMovesSpec) :=
  OpenClaim.holds_of_wide 6 Try.f6 rfl rfl rfl rfl rfl rfl rfl ⟨rfl, rfl, rfl, rfl, rfl⟩ rfl rfl rfl rfl rfl (by kernel_rfl) Try.func6 (by kernel_rfl)
    (of_decide_eq_true (by kernel_rfl)) (by unfold Func.isWrapper; first | (rw [if_pos (by decide +kernel)]; kernel_rfl) | (rw [if_neg (by decide +kernel)]; exact ⟨rfl, rfl⟩))
    (fun os started H enc _ => ChainMoves_lifted os started H enc)

/-- The statement. -/
theorem ChainMoves_holds : Rows.ChainMovesSaid := ChainMoves_over
end Go.Proofs.Ytpmacnfjafpdcab
