/-
  The law ViewPlays holds: any pages in any frames, any acts, all that is told behind each is the document's answer. Conditions: none.
-/
import Derived.Test.YtpmacnfjafpdcaaRows
import Derived.Test.YtpmacnfjafpdcaaViewLawC
import Derived.Test.YtpmacnfjafpdcaaFrameView
namespace Go.Proofs.Ytpmacnfjafpdcaa
open Go.ChangeShapes Go.WideShapes Go.ChangeAt Go.RowKit
set_option linter.unusedSimpArgs false
set_option linter.unusedVariables false

theorem inT_act16 {W : World} {fuel : Nat} {l : List Value} (h : InT Try.prog W fuel 93 l) : ∃ t : Act16, l = act16V t ∧ Act16Ok W t := by
  obtain ⟨hl, f', hf⟩ := inT_struct Try.underlying93 h
  obtain ⟨x0, x1, x2, x3, x4, x5, rfl⟩ := list6 (hl.trans (by kernel_rfl))
  have h0 := hf _ (List.mem_cons_self ..)
  have h1 := hf _ (List.mem_cons_of_mem _ (List.mem_cons_self ..))
  have h2 := hf _ (List.mem_cons_of_mem _ (List.mem_cons_of_mem _ (List.mem_cons_self ..)))
  have h3 := hf _ (List.mem_cons_of_mem _ (List.mem_cons_of_mem _ (List.mem_cons_of_mem _ (List.mem_cons_self ..))))
  have h4 := hf _ (List.mem_cons_of_mem _ (List.mem_cons_of_mem _ (List.mem_cons_of_mem _ (List.mem_cons_of_mem _ (List.mem_cons_self ..)))))
  have h5 := hf _ (List.mem_cons_of_mem _ (List.mem_cons_of_mem _ (List.mem_cons_of_mem _ (List.mem_cons_of_mem _ (List.mem_cons_of_mem _ (List.mem_cons_self ..))))))
  rw [show Try.prog.cellsOf 3 = 1 by kernel_rfl] at h0 h2 h3
  rw [show Try.prog.cellsOf 24 = 1 by kernel_rfl] at h1 h4
  rw [show Try.prog.cellsOf 64 = 1 by kernel_rfl] at h5
  obtain ⟨y0, e0, _⟩ := inT_int Try.underlying3 h0
  obtain ⟨y1, e1, g1⟩ := inT_u32 h1
  obtain ⟨y2, e2, _⟩ := inT_int Try.underlying3 h2
  obtain ⟨y3, e3, _⟩ := inT_int Try.underlying3 h3
  obtain ⟨y4, e4, g4⟩ := inT_u32 h4
  obtain ⟨a, c, bs, e5, g5, g6, g7⟩ := inT_bytes h5
  simp at e0 e1 e2 e3 e4 e5
  exact ⟨⟨y0, y1, y2, y3, y4, a, bs, c⟩, by rw [e0, e1, e2, e3, e4, e5], g1, g4, g7, g5, g6⟩
theorem ty_acts16 {W : World} {v : Value} (h : Ty Try.prog W 91 v) : ∃ a c xs, v = .slice a (List.length (α := Act16) xs) c ∧ xs.length < 9223372036854775808 ∧ SlB W a 6 act16V xs ∧ ∀ t ∈ xs, Act16Ok W t := by
  obtain ⟨a, c, xs, rfl, h1, h2, h3, h4⟩ := ty_sliceF (f := act16V) (Q := Act16Ok W) 6 Try.underlying91 (by kernel_rfl) (by decide) (fun fuel r h => inT_act16 h) h
  exact ⟨a, c, xs, rfl, by simp only [maxLen] at h2; omega, h3, h4⟩

set_option maxRecDepth 100000 in
theorem ViewPlays_lifted (os : Os) (started : os.Started) (H : Type) (enc : TypeId × Value → H) :
    ReturnsInHanded {} Try.checked os 11 .any (Rows.viewPlaysSpec.pre6 enc Try.prog Try.f11 Rows.viewPlaysRow.domain false) (Rows.viewPlaysSpec.post enc Try.prog Try.f11 false true false false) := by
  refine returnsInHanded_of_change (C := Try.checked) own started (by kernel_rfl) Try.func11
    (ChangeSpec.witness6 (enc := enc) (C := Try.checked) false ⟨#[], #[.int .u8 0, .slice none 0 0, .slice none 0 0, .slice none 0 0], []⟩ 8 (by kernel_rfl) (by kernel_rfl) (by kernel_rfl) (by kernel_rfl)) ?_
  intro W base args ds gs before hval0 hW hcnd _
  have hval : ∀ (j : Nat) t v, Try.f11.params[j]? = some t → args[j]? = some v → Value.okWide Try.prog W .any base t v := hval0
  have hW' := hW
  obtain ⟨p, q, hA, hV, rfl, hfz, hnd⟩ := hW
  obtain ⟨rfl, rfl⟩ := trodVars_none hV
  have hT0 := ty_all Try.f11.params.toList args.toList ds p (fun j t v ht hv => hval j t v (by simpa using ht) (by simpa using hv)) hA
  obtain ⟨vs, rfl⟩ : ∃ vs : List Value, args = vs.toArray := ⟨args.toList, by simp⟩
  rw [Try.params11] at hT0
  obtain ⟨k1, k2, hT⟩ := hT0
  replace k1 : 4 = vs.length := by simpa using k1
  replace k2 : 4 = ds.length := by simpa using k2
  obtain ⟨v0, vs0, rfl, k1_0⟩ := list_cons k1
  obtain ⟨v1, vs1, rfl, k1_1⟩ := list_cons k1_0
  obtain ⟨v2, vs2, rfl, k1_2⟩ := list_cons k1_1
  obtain ⟨v3, vs3, rfl, k1_3⟩ := list_cons k1_2
  obtain rfl := list_nil k1_3
  obtain ⟨d0, ds0, rfl, k2_0⟩ := list_cons k2
  obtain ⟨d1, ds1, rfl, k2_1⟩ := list_cons k2_0
  obtain ⟨d2, ds2, rfl, k2_2⟩ := list_cons k2_1
  obtain ⟨d3, ds3, rfl, k2_3⟩ := list_cons k2_2
  obtain rfl := list_nil k2_3
  have T0 : Ty Try.prog W 5 v0 := hT 0 5 v0 rfl rfl
  have T1 : Ty Try.prog W 56 v1 := hT 1 56 v1 rfl rfl
  have T2 : Ty Try.prog W 57 v2 := hT 2 57 v2 rfl rfl
  have T3 : Ty Try.prog W 91 v3 := hT 3 91 v3 rfl rfl
  clear hT hval0
  have walk : Spec Try.prog W 11 [v0, v1, v2, v3] [] (fun v _ => v = .bool true) := by
    clear hval hW' hV hA hfz hnd hcnd
    obtain ⟨n, rfl, hn⟩ := ty_u8 T0
    obtain ⟨a, c, pages, rfl, hl1, h1⟩ := ty_ints T1
    obtain ⟨a', c', pls, rfl, hl2, h2⟩ := ty_places T2
    obtain ⟨al, cl, acts, rfl, hl3, h3, hok⟩ := ty_acts16 T3
    exact fun w' hO => (ViewPlays_walk W n hn a a' al c c' cl pages pls acts h1 h2 h3 hl1 hl2 hl3 hok w' hO).mono fun e w'' ⟨v, B, h1, h2, h3⟩ => ⟨v, B, h1, h2.1, h3⟩
  refine (walk W (Own.refl W)).mono fun e W' h => ?_
  obtain ⟨v, B, rfl, rfl, hO⟩ := h
  have bel := hO.below
  exact ⟨_, rfl, _, _, _, [], _, [], hW', trodAll_mk1 (shut_bool Try.underlying4 _), below_trodAll laidOut bel _ _ _ _ (by kernel_rfl) hA, rfl, bel.frame _, fun h => by cases h⟩

theorem ViewPlays_over : Rows.viewPlaysRow.holds Try.pinned (OpenSpec.ofChange Rows.viewPlaysSpec) :=
  OpenClaim.holds_of_wide 11 Try.f11 rfl rfl rfl rfl rfl rfl rfl ⟨rfl, rfl, rfl, rfl, rfl⟩ rfl rfl rfl rfl rfl (by kernel_rfl) Try.func11 (by kernel_rfl)
    (of_decide_eq_true (by kernel_rfl)) (by unfold Func.isWrapper; first | (rw [if_pos (by decide +kernel)]; kernel_rfl) | (rw [if_neg (by decide +kernel)]; exact ⟨rfl, rfl⟩))
    (fun os started H enc _ => ViewPlays_lifted os started H enc)

/-- The statement. -/
theorem ViewPlays_holds : Rows.ViewPlaysSaid := ViewPlays_over
end Go.Proofs.Ytpmacnfjafpdcaa
