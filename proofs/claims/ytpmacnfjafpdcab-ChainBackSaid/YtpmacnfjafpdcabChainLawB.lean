/-
  Layer 22 (chain): awake, the walks of ChainWalks and ChainBounds.
-/
import Derived.Test.YtpmacnfjafpdcabChainLaw
import Derived.Test.YtpmacnfjafpdcabRefChain
namespace Go.Proofs.Ytpmacnfjafpdcab
open Go.RowKit
set_option linter.unusedSimpArgs false
set_option linter.unusedVariables false
set_option maxRecDepth 20000

def awDs : List Dsc := [⟨64, 4, 1, 0⟩, ⟨64, 4, 0, 0⟩]
theorem awDs_ok : ∀ d ∈ awDs, d.ok := fun d hd => by
  simp only [awDs, List.mem_cons, List.not_mem_nil, or_false] at hd
  rcases hd with rfl | rfl <;> exact ⟨by decide, by decide, by decide, by decide⟩
theorem aw22 : (wkAll (mk22 0 awDs []).1 (pg22 0 8) ⟨0, 0, 0, 2⟩ 0).2 = 2 ∧ (wkAll (mk22 0 awDs []).1 (pg22 0 8) ⟨0, 0, 0, 2⟩ 1).2 = 0 ∧ (wkAll (mk22 0 awDs []).1 (pg22 0 8) ⟨0, 0, 0, 2⟩ 1).1.length = 1 := by decide +kernel
theorem awake22_spec (W0 : World) (R : List HP) : Spec Try.prog W0 10 [] R (fun v B => v = .bool true ∧ B = R) := by
  have hP := pg22_ok 0 8
  obtain ⟨hF, _, _⟩ := mk22_ok 0 awDs []
  obtain ⟨e1, e2, e3⟩ := aw22
  refine spec_body Try.func10 Try.ntmps10 rfl rfl ?_
  refine x_seq ?_
  refine x_region ?_
  refine s_val rfl (v_assign rfl) ?_
  refine x_nil ?_
  refine n_then ?_
  refine x_seq ?_
  refine x_region ?_
  refine s_val rfl (v_build Try.underlying30 Try.zeroValue30 (sized_cons Try.sizeOf28 (sized_cons Try.sizeOf28 (sized_cons Try.sizeOf28 (sized_cons Try.sizeOf28 sized_nil)))) (fil_scal rfl Try.sizeOf28 rfl rfl (Nat.le_of_ble_eq_true rfl) SetL.eq (fil_scal rfl Try.sizeOf28 rfl rfl (Nat.le_of_ble_eq_true rfl) SetL.eq (fil_scal rfl Try.sizeOf28 rfl rfl (Nat.le_of_ble_eq_true rfl) SetL.eq (fil_scal rfl Try.sizeOf28 rfl rfl (Nat.le_of_ble_eq_true rfl) SetL.eq fil_nil))))) ?_
  refine s_val rfl (v_build Try.underlying30 Try.zeroValue30 (sized_cons Try.sizeOf28 (sized_cons Try.sizeOf28 (sized_cons Try.sizeOf28 (sized_cons Try.sizeOf28 sized_nil)))) (fil_scal rfl Try.sizeOf28 rfl rfl (Nat.le_of_ble_eq_true rfl) SetL.eq (fil_scal rfl Try.sizeOf28 rfl rfl (Nat.le_of_ble_eq_true rfl) SetL.eq fil_nil))) ?_
  refine s_do rfl (d_sliceAgg Try.underlying27 Try.sizeOf30 Try.zeroValue30 rfl (elsK_cons rfl rfl (elsK_cons rfl rfl elsK_nil)) rfl (by decide) (by decide) (by decide)) ?_
  rintro _ _ ⟨b1, rfl, rfl⟩
  refine s_do rfl (d_call Try.call7 rfl (made22_spec W0 _ 0 (by decide) _ _ _ _ awDs [] (sla_pt (fun _ => rfl) rfl) awDs_ok (by decide) sla_nil (fun t ht => by simp at ht) (by decide))) ?_
  rintro _ B_ ⟨pv, ps, pm, qv, qs, qm, rfl, hB_⟩
  obtain rfl := hB_.symm
  generalize (mk22 0 awDs []).1 = fr at hF e1 e2 e3
  generalize pg22 0 8 = pg at hP e1 e2 e3
  refine s_val rfl (v_move rfl) ?_
  refine s_val rfl (v_extract rfl rfl) ?_
  refine s_val rfl (v_extract rfl rfl) ?_
  refine s_val rfl (v_assign rfl) ?_
  refine s_val rfl (v_assign rfl) ?_
  refine x_nil ?_
  refine n_then ?_
  refine x_seq ?_
  refine x_seq ?_
  refine x_region ?_
  refine s_val rfl (v_move rfl) ?_
  refine s_val rfl (v_eql_ptr_nil Try.underlying23 rfl rfl) ?_
  refine x_nil ?_
  refine n_then ?_
  refine x_if rfl ?_ ?_
  · intro c2
    cases c2
  · intro c2
    refine x_skip ?_
    refine n_then ?_
    refine x_seq ?_
    refine x_region ?_
    refine s_val rfl (v_move rfl) ?_
    refine s_val rfl (v_build Try.underlying98 Try.zeroValue98 (sized_cons Try.sizeOf28 (sized_cons Try.sizeOf28 (sized_cons Try.sizeOf28 (sized_cons Try.sizeOf3 sized_nil)))) (fil_scal rfl Try.sizeOf3 rfl rfl (Nat.le_of_ble_eq_true rfl) SetL.eq fil_nil)) ?_
    refine s_do rfl (d_call3 Try.call34 rfl (chWalk_spec W0 _ pv ps pm _ fr pg hP hF ⟨0, 0, 0, 2⟩ ⟨by decide, by decide, by decide⟩ 0)) ?_
    rintro _ B_ ⟨a1, k1, rfl, hB_⟩
    obtain rfl := hB_.symm
    rw [e1]
    refine s_val rfl (v_move rfl) ?_
    refine s_val rfl (v_extract rfl rfl) ?_
    refine s_val rfl (v_extract rfl rfl) ?_
    refine s_val rfl (v_assign rfl) ?_
    refine s_val rfl (v_assign rfl) ?_
    refine x_nil ?_
    refine n_then ?_
    refine x_seq ?_
    refine x_region ?_
    refine s_val rfl (v_move rfl) ?_
    refine s_val rfl (v_build Try.underlying98 Try.zeroValue98 (sized_cons Try.sizeOf28 (sized_cons Try.sizeOf28 (sized_cons Try.sizeOf28 (sized_cons Try.sizeOf3 sized_nil)))) (fil_scal rfl Try.sizeOf3 rfl rfl (Nat.le_of_ble_eq_true rfl) SetL.eq fil_nil)) ?_
    refine s_do rfl (d_call3 Try.call34 rfl (chWalk_spec W0 _ pv ps pm _ fr pg hP hF ⟨0, 0, 0, 2⟩ ⟨by decide, by decide, by decide⟩ 1)) ?_
    rintro _ B_ ⟨a2, k2, rfl, hB_⟩
    obtain rfl := hB_.symm
    rw [e2, e3]
    refine s_val rfl (v_move rfl) ?_
    refine s_val rfl (v_extract rfl rfl) ?_
    refine s_val rfl (v_extract rfl rfl) ?_
    refine s_val rfl (v_assign rfl) ?_
    refine s_val rfl (v_assign rfl) ?_
    refine x_nil ?_
    refine n_then ?_
    refine x_seq ?_
    refine x_region ?_
    refine s_val rfl (v_move rfl) ?_
    refine s_val rfl (v_eql rfl rfl) ?_
    refine s_val rfl (v_move rfl) ?_
    refine s_and rfl rfl rfl ?_ ?_
    · intro g6_3
      refine s_val rfl (v_move rfl) ?_
      refine s_yes rfl rfl ?_
      refine s_val rfl (v_eql rfl rfl) ?_
      refine s_val rfl (v_pick_t rfl rfl) ?_
      refine s_val rfl (v_move rfl) ?_
      refine s_and rfl rfl rfl ?_ ?_
      · intro g6_7
        refine s_val rfl (v_move rfl) ?_
        refine s_yes rfl rfl ?_
        refine s_val rfl (v_len_slice Try.underlying27 rfl) ?_
        refine s_yes rfl rfl ?_
        refine s_val rfl (v_eql rfl rfl) ?_
        refine s_val rfl (v_pick_t rfl rfl) ?_
        refine s_val rfl (v_assign rfl) ?_
        refine x_nil ?_
        refine n_then ?_
        refine x_ret ?_
        refine x_done (.inl rfl) (.cons (r_tmp rfl) .nil) ?_
        exact ⟨_, ⟨rfl, rfl⟩, inferInstance⟩
      · intro g6_7
        exact absurd rfl g6_7
    · intro g6_3
      exact absurd rfl g6_3
theorem dsv_get {l : List Dsc} {i j : Nat} {v : Value} (h : i < l.length) (hj : (dsV l[i])[j]? = some v) : (l.flatMap dsV)[i * 4 + j]? = some v := by
  have hj4 : j < 4 := by
    rcases Nat.lt_or_ge j 4 with q | q
    · exact q
    · rw [List.getElem?_eq_none (show (dsV l[i]).length ≤ j from q)] at hj; cases hj
  have := flat_get dsV_flat_len l i j [] h hj4
  rw [List.append_nil] at this
  rw [this, hj]
/-! ### Bounds -/
theorem lk_all {fr : List Frm} {pg : List Pl} {r : Rg3} {at_ : Int} {n : Nat} {wr : Bool} (h : (lk fr pg r at_ n wr).2 = 0) :
    ownB fr.length pg (lk fr pg r at_ n wr).1.addr (lk fr pg r at_ n wr).1.len = true ∧ (lk fr pg r at_ n wr).1.len ≤ 64 ∧ (wr = true → wrB (lk fr pg r at_ n wr).1 = true) := by
  unfold lk at h ⊢
  by_cases q1 : at_ < 0 ∨ r.n ≤ at_
  · rw [if_pos q1] at h; exact absurd h (by decide)
  rw [if_neg q1] at h ⊢
  by_cases q2 : r.n ≤ (n : Int)
  · rw [if_pos q2] at h; exact absurd h (by decide)
  rw [if_neg q2] at h ⊢
  by_cases q3 : ownB fr.length pg (dsPa r at_.toNat) 16 = false
  · rw [if_pos q3] at h; exact absurd h (by decide)
  rw [if_neg q3] at h ⊢
  by_cases q4 : chkC (dsAt fr pg r at_.toNat) r.n.toNat ≠ 0
  · rw [if_pos q4] at h; exact absurd h q4
  rw [if_neg q4] at h ⊢
  by_cases q5 : ownB fr.length pg (dsAt fr pg r at_.toNat).addr (dsAt fr pg r at_.toNat).len = false
  · rw [if_pos q5] at h; exact absurd h (by decide)
  rw [if_neg q5] at h ⊢
  by_cases q6 : wr = true ∧ wrB (dsAt fr pg r at_.toNat) = false
  · rw [if_pos q6] at h; exact absurd h (by decide)
  rw [if_neg q6]
  simp only
  refine ⟨by simpa using q5, ?_, fun hw => ?_⟩
  · rcases Nat.lt_or_ge 64 (dsAt fr pg r at_.toNat).len with q | q
    · exact absurd (by unfold chkC; repeat' split
                       all_goals first | decide | omega) q4
    · exact q
  · rcases hb : wrB (dsAt fr pg r at_.toNat) with _ | _
    · exact absurd ⟨hw, hb⟩ q6
    · rfl
theorem wkSt_get {fr : List Frm} {pg : List Pl} {r : Rg3} {head : Int} : ∀ n i (h : i < (wkSt fr pg r head n).2.2.length), (wkSt fr pg r head n).2.2[i] = (lkN fr pg r head i).1
  | 0, i, h => by simp [wkSt] at h
  | n + 1, i, h => by
    have hl := wkSt_len fr pg r head n
    have h' : i < n + 1 := by rw [wkSt_len] at h; exact h
    have e : (wkSt fr pg r head (n + 1)).2.2 = (wkSt fr pg r head n).2.2 ++ [(lkN fr pg r head n).1] := rfl
    rw [List.getElem_of_eq e]
    rcases Nat.lt_or_ge i n with q | q
    · rw [List.getElem_append_left (by omega)]; exact wkSt_get n i (by omega)
    · have : i = n := by omega
      subst this
      rw [List.getElem_append_right (by omega)]
      simp
/-- What a walk's chain is like. -/
structure WkOk (fr : List Frm) (pg : List Pl) (r : Rg3) (l : List Dsc) (c : Int) : Prop where
  zero : c = 0 ↔ 0 < l.length
  len : (l.length : Int) ≤ max r.n 0
  own : ∀ i (h : i < l.length), ownB fr.length pg l[i].addr l[i].len = true ∧ l[i].len ≤ 64 ∧ l[i].flags < 4
  ord : ∀ i (h : i + 1 < l.length), wrB l[i] = true → wrB l[i + 1] = true
  go : ∀ i (h : i < l.length), goB l[i] = true ↔ i + 1 < l.length
theorem wkAll_facts (fr : List Frm) (pg : List Pl) (r : Rg3) (head : Int) : WkOk fr pg r (wkAll fr pg r head).1 (wkAll fr pg r head).2 := by
  rcases wkAll_or fr pg r head with ⟨c, h, hc⟩ | ⟨m, hm, h, hal, hz, hg⟩
  · rw [h]
    exact ⟨⟨fun q => absurd q hc, fun q => by simp at q⟩, by simp; omega, fun i h => by simp at h, fun i h => by simp at h, fun i h => by simp at h⟩
  · rw [h]
    have hl := wkSt_len fr pg r head (m + 1)
    have hok : ∀ i, i < m + 1 → (lkN fr pg r head i).2 = 0 := fun i hi => by
      rcases Nat.lt_or_ge i m with q | q
      · exact (hal i q).1
      · rw [show i = m by omega]; exact hz
    refine ⟨⟨fun _ => by rw [hl]; omega, fun _ => rfl⟩, ?_, fun i hi => ?_, fun i hi hw => ?_, fun i hi => ?_⟩
    · have := lk_n hz; rw [hl]; omega
    · rw [wkSt_get]
      have hi' : i < m + 1 := by rw [← hl]; exact hi
      exact ⟨(lk_all (hok i hi')).1, (lk_all (hok i hi')).2.1, lk_flags (hok i hi')⟩
    · have hi' : i + 1 < m + 1 := by rw [← hl]; exact hi
      rw [wkSt_get] at hw ⊢
      refine (lk_all (hok (i + 1) hi')).2.2 ?_
      exact hw
    · have hi' : i < m + 1 := by rw [← hl]; exact hi
      simp only [hl]
      rw [wkSt_get]
      rcases Nat.lt_or_ge i m with q | q
      · exact ⟨fun _ => by omega, fun _ => (hal i q).2⟩
      · have : i = m := by omega
        subst this
        exact ⟨fun k => absurd k (by rw [hg]; decide), fun k => absurd k (by omega)⟩
theorem len_sum {l : List Dsc} (h : ∀ i (h : i < l.length), l[i].len ≤ 64) : lenW l true + lenW l false ≤ l.length * 64 := by
  induction l with
  | nil => simp [lenW]
  | cons d l ih =>
    have h0 := h 0 (by simp)
    have h1 := ih (fun i hi => by have := h (i + 1) (by simp; omega); simpa using this)
    simp only [List.getElem_cons_zero] at h0
    simp only [lenW, List.map_cons, List.sum_cons, List.length_cons] at h1 ⊢
    cases wrB d <;> simp <;> omega
theorem shl2 {k : Nat} (h : k < 3) : bShl .i64 2 (k : Int) = ((2 * 2 ^ k : Nat) : Int) := by
  have : ∀ k : Nat, k < 3 → bShl .i64 2 (k : Int) = ((2 * 2 ^ k : Nat) : Int) := by decide
  exact this k h
theorem pow3 {k : Nat} (h : k < 3) : 2 * 2 ^ k ≤ 8 := by
  have : ∀ k : Nat, k < 3 → 2 * 2 ^ k ≤ 8 := by decide
  exact this k h
def prvW (l : List Dsc) : Nat → Bool
  | 0 => false
  | i + 1 => wrB (l.getD i zD)
end Go.Proofs.Ytpmacnfjafpdcab
