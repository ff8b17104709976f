/-
  The law QueueBroken holds: a broken queue takes nothing, uses nothing, and stays as it is, till it is laid anew or put off. Conditions: none.
-/
import Derived.Test.YtechkfopkpkigaaGreatRows
import Derived.Test.YtechkfopkpkigaaGreatQueueBr
import Derived.Test.YtechkfopkpkigaaGreatFrameRing
import Derived.Test.YtechkfopkpkigaaGreatFrameBytes
namespace Go.Proofs.YtechkfopkpkigaaGreat
open Go.ChangeShapes Go.WideShapes Go.ChangeAt Go.RowKit
set_option linter.unusedSimpArgs false
set_option linter.unusedVariables false
set_option maxRecDepth 20000

theorem list7' {l : List Value} (h : l.length = 7) : ∃ a b c d e f g, l = [a, b, c, d, e, f, g] := by
  match l, h with
  | [a, b, c, d, e, f, g], _ => exact ⟨a, b, c, d, e, f, g, rfl⟩
theorem inT_act23 {W : World} {fuel : Nat} {l : List Value} (h : InT Tryz.prog W fuel 67 l) : ∃ t : Act23, l = act23V t ∧ True := by
  obtain ⟨hl, f', hf⟩ := inT_struct Tryz.underlying67 h
  obtain ⟨x0, x1, x2, x3, x4, x5, x6, rfl⟩ := list7' (hl.trans (by kernel_rfl))
  have h0 := hf _ (List.mem_cons_self ..)
  have h1 := hf _ (List.mem_cons_of_mem _ (List.mem_cons_self ..))
  have h2 := hf _ (List.mem_cons_of_mem _ (List.mem_cons_of_mem _ (List.mem_cons_self ..)))
  have h3 := hf _ (List.mem_cons_of_mem _ (List.mem_cons_of_mem _ (List.mem_cons_of_mem _ (List.mem_cons_self ..))))
  rw [show Tryz.prog.cellsOf 3 = 1 by kernel_rfl] at h0 h2 h3
  rw [show Tryz.prog.cellsOf 55 = 4 by kernel_rfl] at h1
  obtain ⟨y0, e0, _⟩ := inT_int Tryz.underlying3 h0
  obtain ⟨r, e1, _⟩ := inT_ring h1
  obtain ⟨y2, e2, _⟩ := inT_int Tryz.underlying3 h2
  obtain ⟨y3, e3, _⟩ := inT_int Tryz.underlying3 h3
  simp at e0 e1 e2 e3
  obtain ⟨q1, q2, q3, q4⟩ := e1
  exact ⟨⟨y0, r, y2, y3⟩, by rw [e0, e2, e3, q1, q2, q3, q4], trivial⟩
theorem ty_acts23 {W : World} {v : Value} (h : Ty Tryz.prog W 44 v) : ∃ a c xs, v = .slice a (List.length (α := Act23) xs) c ∧ xs.length < 9223372036854775808 ∧ SlB W a 7 act23V xs := by
  obtain ⟨a, c, xs, rfl, h1, h2, h3, h4⟩ := ty_sliceF (f := act23V) (Q := fun _ => True) 7 Tryz.underlying44 (by kernel_rfl) (by decide) (fun fuel r h => inT_act23 h) h
  exact ⟨a, c, xs, rfl, by simp only [maxLen] at h2; omega, h3⟩

set_option maxRecDepth 100000 in
theorem QueueBroken_lifted (os : Os) (started : os.Started) (H : Type) (enc : TypeId × Value → H) :
    ReturnsInHanded {} Tryz.checked os 4 .any (Rows.queueBrokenSpec.pre6 enc Tryz.prog Tryz.f4 Rows.queueBrokenRow.domain false) (Rows.queueBrokenSpec.post enc Tryz.prog Tryz.f4 false true false false) := by
  refine returnsInHanded_of_change (C := Tryz.checked) own started (by kernel_rfl) Tryz.func4
    (ChangeSpec.witness6 (enc := enc) (C := Tryz.checked) false ⟨#[], #[.slice none 0 0, .int .i64 0, .slice none 0 0], []⟩ 8 (by kernel_rfl) (by kernel_rfl) (by kernel_rfl) (by kernel_rfl)) ?_
  intro W base args ds gs before hval0 hW hcnd _
  have hval : ∀ (j : Nat) t v, Tryz.f4.params[j]? = some t → args[j]? = some v → Value.okWide Tryz.prog W .any base t v := hval0
  have hW' := hW
  obtain ⟨p, q, hA, hV, rfl, hfz, hnd⟩ := hW
  obtain ⟨rfl, rfl⟩ := trodVars_none hV
  have hT0 := ty_all Tryz.f4.params.toList args.toList ds p (fun j t v ht hv => hval j t v (by simpa using ht) (by simpa using hv)) hA
  obtain ⟨vs, rfl⟩ : ∃ vs : List Value, args = vs.toArray := ⟨args.toList, by simp⟩
  rw [Tryz.params4] at hT0
  obtain ⟨k1, k2, hT⟩ := hT0
  replace k1 : 3 = vs.length := by simpa using k1
  replace k2 : 3 = ds.length := by simpa using k2
  obtain ⟨v0, vs0, rfl, k1_0⟩ := list_cons k1
  obtain ⟨v1, vs1, rfl, k1_1⟩ := list_cons k1_0
  obtain ⟨v2, vs2, rfl, k1_2⟩ := list_cons k1_1
  obtain rfl := list_nil k1_2
  obtain ⟨d0, ds0, rfl, k2_0⟩ := list_cons k2
  obtain ⟨d1, ds1, rfl, k2_1⟩ := list_cons k2_0
  obtain ⟨d2, ds2, rfl, k2_2⟩ := list_cons k2_1
  obtain rfl := list_nil k2_2
  have T0 : Ty Tryz.prog W 43 v0 := hT 0 43 v0 rfl rfl
  have T1 : Ty Tryz.prog W 3 v1 := hT 1 3 v1 rfl rfl
  have T2 : Ty Tryz.prog W 44 v2 := hT 2 44 v2 rfl rfl
  clear hT hval0
  have walk : Spec Tryz.prog W 4 [v0, v1, v2] [] (fun v _ => v = .bool true) := by
    clear hval hW' hV hA hfz hnd hcnd
    obtain ⟨al, cl, ds, rfl, hl, hds, hok⟩ := ty_descs T0
    obtain ⟨wrong, rfl, _⟩ := ty_i64 T1
    obtain ⟨aa, ca, acts, rfl, hl2, hac⟩ := ty_acts23 T2
    exact fun w' hO => (QueueBroken_walk W al cl ds hds hok hl wrong aa ca acts hac hl2 w' hO).mono fun e w'' ⟨v, B, h1, h2, h3⟩ => ⟨v, B, h1, h2.1, h3⟩
  refine (walk W (Own.refl W)).mono fun e W' h => ?_
  obtain ⟨v, B, rfl, rfl, hO⟩ := h
  have bel := hO.below
  exact ⟨_, rfl, _, _, _, [], _, [], hW', trodAll_mk1 (shut_bool Tryz.underlying4 _), below_trodAll laidOut bel _ _ _ _ (by kernel_rfl) hA, rfl, bel.frame _, fun h => by cases h⟩

theorem QueueBroken_over : Rows.queueBrokenRow.holds Tryz.pinned (OpenSpec.ofChange Rows.queueBrokenSpec) :=
  OpenClaim.holds_of_wide 4 Tryz.f4 rfl rfl rfl rfl rfl rfl rfl ⟨rfl, rfl, rfl, rfl, rfl⟩ rfl rfl rfl rfl rfl (by kernel_rfl) Tryz.func4 (by kernel_rfl)
    (of_decide_eq_true (by kernel_rfl)) (by unfold Func.isWrapper; first | (rw [if_pos (by decide +kernel)]; kernel_rfl) | (rw [if_neg (by decide +kernel)]; exact ⟨rfl, rfl⟩))
    (fun os started H enc _ => QueueBroken_lifted os started H enc)

/-- The statement. -/
theorem QueueBroken_holds : Rows.QueueBrokenSaid := QueueBroken_over
end Go.Proofs.YtechkfopkpkigaaGreat
