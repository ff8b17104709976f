/-
  Layer 18 (stlb): the heap's own functions, and finding.
-/
import Derived.Test.YtechkfopkpkigaaStlb
namespace Go.Proofs.Ytechkfopkpkigaa
open Go.RowKit
set_option linter.unusedSimpArgs false
set_option linter.unusedVariables false
set_option maxRecDepth 20000

theorem heapFix_spec (W0 : World) (R : List HP) (b : Nat) (its : List It) (tl : List Value) (i : Nat) (hN : its.length < 1000) (hi : i < its.length) (hH : Hole its i its.length) :
    Spec Try.prog W0 89 [rowI b, .int .i64 i] (rowH b (its, tl) :: R) (fun v B => v = .tuple #[] ∧ ∃ its', B = rowH b (its', tl) :: R ∧ its'.Perm its ∧ Heap its' its.length) := by
  refine spec_body Try.func89 Try.ntmps89 rfl rfl ?_
  refine x_seq ?_
  refine x_region ?_
  refine s_val rfl (v_move rfl) ?_
  refine s_val rfl (v_move rfl) ?_
  refine s_val rfl (v_move rfl) ?_
  refine s_do rfl (d_invoke1 rfl ((fun w => m_len w _)) Try.call91 rfl (rowLen_spec W0 _ b its tl)) ?_
  rintro _ B_ ⟨rfl, hB_⟩
  obtain rfl := hB_.symm
  refine s_do rfl (d_call1 Try.call145 rfl (heapDown_spec W0 _ b its tl i its.length (Nat.le_refl _) hN (by omega) hH)) ?_
  rintro _ _ ⟨l, m, rfl, rfl, hD⟩
  refine s_val rfl (v_not rfl) ?_
  refine x_nil ?_
  refine n_then ?_
  refine x_if rfl ?_ ?_
  · intro c0
    have hm : m = false := by simpa using c0
    obtain ⟨rfl, hmin⟩ := hD.no hm
    refine x_region ?_
    refine s_val rfl (v_move rfl) ?_
    refine s_val rfl (v_move rfl) ?_
    refine s_do rfl (d_call1 Try.call146 rfl (heapUp_spec W0 _ b l tl i l.length (Nat.le_refl _) hN hi (hole_up hH hmin))) ?_
    rintro _ _ ⟨rfl, l', rfl, hp, hh, _⟩
    refine x_nil ?_
    refine x_done (.inr rfl) .nil ?_
    exact ⟨_, ⟨rfl, l', rfl, hp, hh⟩, inferInstance⟩
  · intro c0
    refine x_skip ?_
    refine x_done (.inr rfl) .nil ?_
    exact ⟨_, ⟨rfl, l, rfl, hD.perm, hD.yes (by simpa using c0)⟩, inferInstance⟩

theorem push_up {its : List It} {x : It} (h : Heap its its.length) : Up (its ++ [x]) its.length (its.length + 1) := by
  have e : ∀ c, c < its.length → us (its ++ [x]) c = us its c := fun c hc => by
    unfold us; simp only [List.getD_eq_getElem?_getD]; rw [List.getElem?_append_left hc]
  intro c hc h0
  refine ⟨fun h1 => ?_, fun h1 h2 => by omega⟩
  rw [e c (by omega), e _ (by omega)]; exact h c (by omega) h0
theorem heapPush_spec (W0 : World) (R : List HP) (b : Nat) (its : List It) (x : It) (tl : List Value) (hN : its.length < 900) (hh : Heap its its.length) :
    Spec Try.prog W0 90 [rowI b, .iface 171 (.agg (itemV x).toArray)] (rowH b (its, tl) :: R) (fun v B => v = .tuple #[] ∧ ∃ its', B = rowH b (its', tl) :: R ∧ its'.Perm (its ++ [x]) ∧ Heap its' its'.length) := by
  have hl : (its ++ [x]).length = its.length + 1 := by simp
  refine spec_body Try.func90 Try.ntmps90 rfl rfl ?_
  refine x_seq ?_
  refine x_region ?_
  refine s_val rfl (v_move rfl) ?_
  refine s_val rfl (v_move rfl) ?_
  refine s_do rfl (d_invoke1 rfl ((fun w => m_push w _)) Try.call244 rfl (rowPush_spec W0 _ b its x tl (by omega))) ?_
  rintro _ B_ ⟨rfl, hB_⟩
  obtain rfl := hB_.symm
  refine x_nil ?_
  refine n_then ?_
  refine x_region ?_
  refine s_val rfl (v_move rfl) ?_
  refine s_val rfl (v_move rfl) ?_
  refine s_do rfl (d_invoke1 rfl ((fun w => m_len w _)) Try.call91 rfl (rowLen_spec W0 _ b (its ++ [x]) tl)) ?_
  rintro _ B_ ⟨rfl, hB_⟩
  obtain rfl := hB_.symm
  refine s_val rfl (v_sub rfl rfl (by rw [w64 (by omega)]; omega : IntKind.wrap .i64 (((its ++ [x]).length : Nat) - 1 : Int) = ((its.length : Nat) : Int))) ?_
  refine s_do rfl (d_call1 Try.call146 rfl (heapUp_spec W0 _ b (its ++ [x]) tl its.length (its.length + 1) (by omega) (by omega) (by omega) (push_up hh))) ?_
  rintro _ _ ⟨rfl, l', rfl, hp, hh', _⟩
  refine x_nil ?_
  refine x_done (.inr rfl) .nil ?_
  exact ⟨_, ⟨rfl, l', rfl, hp, by rw [hp.length_eq, hl]; exact hh'⟩, inferInstance⟩

/-- The last one is set apart. -/
theorem last_split {l : List It} {n : Nat} (h : l.length = n + 1) : ∃ l' x, l = l' ++ [x] ∧ l'.length = n ∧ x = l.getD n default := by
  have hne : l ≠ [] := fun e => by rw [e] at h; simp at h
  refine ⟨l.dropLast, l.getLast hne, (List.dropLast_concat_getLast hne).symm, by simp [h], ?_⟩
  rw [List.getLast_eq_getElem]
  simp [List.getD, h]
theorem heap_front {l : List It} {x : It} {n : Nat} (h : Heap (l ++ [x]) n) (hn : n ≤ l.length) : Heap l n :=
  heap_congr (fun i hi => by simp only [List.getD_eq_getElem?_getD]; rw [List.getElem?_append_left (by omega)]) h
theorem heapPop_spec (W0 : World) (R : List HP) (b : Nat) (its : List It) (tl : List Value) (hN : its.length < 900) (h0 : its ≠ []) (hh : Heap its its.length) :
    Spec Try.prog W0 92 [rowI b] (rowH b (its, tl) :: R) (fun v B => ∃ x its', v = .iface 171 (.agg (itemV x).toArray) ∧ B = rowH b (its', tl) :: R ∧ (its' ++ [x]).Perm its ∧ Heap its' its'.length ∧ ∀ y ∈ its, x.u ≤ y.u) := by
  obtain ⟨n, hn⟩ : ∃ n, its.length = n + 1 := ⟨its.length - 1, by have := List.length_pos_iff.2 h0; omega⟩
  have hs : Hole (swapL its 0 n) 0 n := fun c hc h0 => ⟨fun h1 h2 => by
    rw [us_swapL (by omega) (by omega), us_swapL (by omega) (by omega), if_neg h2, if_neg h1, if_neg (by omega), if_neg (by omega)]
    exact hh c (by omega) h0, fun _ h => by omega⟩
  have hsl := swapL_length its 0 n
  refine spec_body Try.func92 Try.ntmps92 rfl rfl ?_
  refine x_seq ?_
  refine x_region ?_
  refine s_val rfl (v_assign rfl) ?_
  refine x_nil ?_
  refine n_then ?_
  refine x_seq ?_
  refine x_region ?_
  refine s_val rfl (v_move rfl) ?_
  refine s_do rfl (d_invoke1 rfl ((fun w => m_len w _)) Try.call91 rfl (rowLen_spec W0 _ b its tl)) ?_
  rintro _ B_ ⟨rfl, hB_⟩
  obtain rfl := hB_.symm
  refine s_val rfl (v_sub rfl rfl (by rw [w64 (by omega)]; omega : IntKind.wrap .i64 ((its.length : Nat) - 1 : Int) = ((n : Nat) : Int))) ?_
  refine s_val rfl (v_assign rfl) ?_
  refine x_nil ?_
  refine n_then ?_
  refine x_seq ?_
  refine x_region ?_
  refine s_val rfl (v_move rfl) ?_
  refine s_val rfl (v_move rfl) ?_
  refine s_do rfl (d_invoke1 rfl ((fun w => m_swap w _)) Try.call245 rfl (rowSwap_spec W0 _ b its tl 0 n (by omega) (by omega))) ?_
  rintro _ B_ ⟨rfl, hB_⟩
  obtain rfl := hB_.symm
  refine x_nil ?_
  refine n_then ?_
  refine x_seq ?_
  refine x_region ?_
  refine s_val rfl (v_move rfl) ?_
  refine s_val rfl (v_move rfl) ?_
  refine s_do rfl (d_call1 Try.call145 rfl (heapDown_spec W0 _ b (swapL its 0 n) tl 0 n (by omega) (by omega) (by omega) hs)) ?_
  rintro _ _ ⟨l, m, rfl, rfl, hD⟩
  have hll := hD.perm.length_eq
  obtain ⟨l', x, rfl, hl', hx⟩ := last_split (l := l) (n := n) (by omega)
  have hx0 : x = its.getD 0 default := by
    rw [hx, hD.tail n (Nat.le_refl _), getD_swapL (by omega) (by omega)]; split
    · rename_i e; subst e; rfl
    · rw [if_pos rfl]
  have hp : (l' ++ [x]).Perm its := hD.perm.trans (swapL_perm (by omega) (by omega))
  have hH : Heap (l' ++ [x]) n := by
    cases m with
    | true => exact hD.yes rfl
    | false =>
      obtain ⟨e, hmin⟩ := hD.no rfl
      rw [e]; exact hole_heap hs hmin (fun h => absurd h (by omega))
  refine x_nil ?_
  refine n_then ?_
  refine x_seq ?_
  refine x_region ?_
  refine s_val rfl (v_move rfl) ?_
  refine s_do rfl (d_invoke1 rfl ((fun w => m_pop w _)) Try.call243 rfl (rowPop_spec W0 _ b l' x tl)) ?_
  rintro _ B_ ⟨rfl, hB_⟩
  obtain rfl := hB_.symm
  refine s_val rfl (v_assign rfl) ?_
  refine x_nil ?_
  refine n_then ?_
  refine x_ret ?_
  refine x_done (.inl rfl) (.cons (r_tmp rfl) .nil) ?_
  refine ⟨_, ⟨x, l', rfl, rfl, hp, by rw [hl']; exact heap_front hH (by omega), fun y hy => ?_⟩, inferInstance⟩
  obtain ⟨c, hc, rfl⟩ := List.mem_iff_getElem.1 hy
  have := heap_min hh c hc
  rw [us_eq hc] at this
  rw [hx0]; exact this
theorem heapRemove_spec (W0 : World) (R : List HP) (b : Nat) (its : List It) (tl : List Value) (i : Nat) (hN : its.length < 900) (hi : i < its.length) (hh : Heap its its.length) :
    Spec Try.prog W0 99 [rowI b, .int .i64 i] (rowH b (its, tl) :: R) (fun v B => ∃ its', v = .iface 171 (.agg (itemV (its.getD i default)).toArray) ∧ B = rowH b (its', tl) :: R ∧ (its' ++ [its.getD i default]).Perm its ∧ Heap its' its'.length) := by
  obtain ⟨n, hn⟩ : ∃ n, its.length = n + 1 := ⟨its.length - 1, by omega⟩
  have hs : i ≠ n → Hole (swapL its i n) i n := fun hin c hc h0 => ⟨fun h1 h2 => by
    rw [us_swapL (by omega) (by omega), us_swapL (by omega) (by omega), if_neg h2, if_neg h1, if_neg (by omega), if_neg (by omega)]
    exact hh c (by omega) h0, fun h1 h2 => by
    rw [us_swapL (by omega) (by omega), us_swapL (by omega) (by omega), if_neg (by omega), if_neg (by omega), if_neg (by omega), if_neg (by omega)]
    have k1 := hh c (by omega) h0
    have k2 := hh i (by omega) h2
    rw [h1] at k1; omega⟩
  have hsl := swapL_length its i n
  have fin : ∀ l : List It, l.Perm its → Heap l n → l.getD n default = its.getD i default → ∃ l', l = l' ++ [its.getD i default] ∧ l'.length = n ∧ Heap l' l'.length := fun l hp hH hx => by
    have := hp.length_eq
    obtain ⟨l', x, rfl, hl', hx'⟩ := last_split (l := l) (n := n) (by omega)
    rw [hx] at hx'; subst hx'
    exact ⟨l', rfl, hl', by rw [hl']; exact heap_front hH (by omega)⟩
  have hend : i ≠ n → (swapL its i n).getD n default = its.getD i default := fun h => by
    rw [getD_swapL (by omega) (by omega), if_neg (by omega), if_pos rfl]
  refine spec_body Try.func99 Try.ntmps99 rfl rfl ?_
  refine x_seq ?_
  refine x_region ?_
  refine s_val rfl (v_assign rfl) ?_
  refine x_nil ?_
  refine n_then ?_
  refine x_seq ?_
  refine x_region ?_
  refine s_val rfl (v_move rfl) ?_
  refine s_do rfl (d_invoke1 rfl ((fun w => m_len w _)) Try.call91 rfl (rowLen_spec W0 _ b its tl)) ?_
  rintro _ B_ ⟨rfl, hB_⟩
  obtain rfl := hB_.symm
  refine s_val rfl (v_sub rfl rfl (by rw [w64 (by omega)]; omega : IntKind.wrap .i64 ((its.length : Nat) - 1 : Int) = ((n : Nat) : Int))) ?_
  refine s_val rfl (v_assign rfl) ?_
  refine x_nil ?_
  refine n_then ?_
  refine x_seq ?_
  refine x_seq ?_
  refine x_region ?_
  refine s_val rfl (v_move rfl) ?_
  refine s_val rfl (v_move rfl) ?_
  refine s_val rfl (v_neq rfl rfl) ?_
  refine x_nil ?_
  refine n_then ?_
  refine x_if rfl ?_ ?_
  · intro c2
    have hin : i ≠ n := by omega
    refine x_seq ?_
    refine x_region ?_
    refine s_val rfl (v_move rfl) ?_
    refine s_val rfl (v_move rfl) ?_
    refine s_val rfl (v_move rfl) ?_
    refine s_do rfl (d_invoke1 rfl ((fun w => m_swap w _)) Try.call245 rfl (rowSwap_spec W0 _ b its tl i n (by omega) (by omega))) ?_
    rintro _ B_ ⟨rfl, hB_⟩
    obtain rfl := hB_.symm
    refine x_nil ?_
    refine n_then ?_
    refine x_seq ?_
    refine x_region ?_
    refine s_val rfl (v_move rfl) ?_
    refine s_val rfl (v_move rfl) ?_
    refine s_val rfl (v_move rfl) ?_
    refine s_do rfl (d_call1 Try.call145 rfl (heapDown_spec W0 _ b (swapL its i n) tl i n (by omega) (by omega) (by omega) (hs hin))) ?_
    rintro _ _ ⟨l, m, rfl, rfl, hD⟩
    have hll := hD.perm.length_eq
    refine s_val rfl (v_not rfl) ?_
    refine x_nil ?_
    refine n_then ?_
    refine x_if rfl ?_ ?_
    · intro c4
      have hm : m = false := by simpa using c4
      obtain ⟨rfl, hmin⟩ := hD.no hm
      refine x_region ?_
      refine s_val rfl (v_move rfl) ?_
      refine s_val rfl (v_move rfl) ?_
      refine s_do rfl (d_call1 Try.call146 rfl (heapUp_spec W0 _ b (swapL its i n) tl i n (by omega) (by omega) (by omega) (hole_up (hs hin) hmin))) ?_
      rintro _ _ ⟨rfl, l, rfl, hp, hH, ht⟩
      obtain ⟨l', rfl, hl', hH⟩ := fin l (hp.trans (swapL_perm (by omega) (by omega))) hH ((ht n (Nat.le_refl _)).trans (hend hin))
      replace hp := hp.trans (swapL_perm (by omega) (by omega))
      generalize its.getD i default = x at hp ⊢
      refine x_nil ?_
      refine n_then ?_
      refine x_seq ?_
      refine x_region ?_
      refine s_val rfl (v_move rfl) ?_
      refine s_do rfl (d_invoke1 rfl ((fun w => m_pop w _)) Try.call243 rfl (rowPop_spec W0 _ b l' x tl)) ?_
      rintro _ B_ ⟨rfl, hB_⟩
      obtain rfl := hB_.symm
      refine s_val rfl (v_assign rfl) ?_
      refine x_nil ?_
      refine n_then ?_
      refine x_ret ?_
      refine x_done (.inl rfl) (.cons (r_tmp rfl) .nil) ?_
      exact ⟨_, ⟨l', rfl, rfl, by first | exact hp | exact List.Perm.refl _, hH⟩, inferInstance⟩
    · intro c4
      have hm : m = true := by simpa using c4
      obtain ⟨l', rfl, hl', hH⟩ := fin l (hD.perm.trans (swapL_perm (by omega) (by omega))) (hD.yes hm) ((hD.tail n (Nat.le_refl _)).trans (hend hin))
      have hp := hD.perm.trans (swapL_perm (l := its) (i := i) (j := n) (by omega) (by omega))
      generalize its.getD i default = x at hp ⊢
      refine x_skip ?_
      refine n_then ?_
      refine x_seq ?_
      refine x_region ?_
      refine s_val rfl (v_move rfl) ?_
      refine s_do rfl (d_invoke1 rfl ((fun w => m_pop w _)) Try.call243 rfl (rowPop_spec W0 _ b l' x tl)) ?_
      rintro _ B_ ⟨rfl, hB_⟩
      obtain rfl := hB_.symm
      refine s_val rfl (v_assign rfl) ?_
      refine x_nil ?_
      refine n_then ?_
      refine x_ret ?_
      refine x_done (.inl rfl) (.cons (r_tmp rfl) .nil) ?_
      exact ⟨_, ⟨l', rfl, rfl, by first | exact hp | exact List.Perm.refl _, hH⟩, inferInstance⟩
  · intro c2
    obtain rfl : n = i := by omega
    obtain ⟨l', hl, hl', hH⟩ := fin its (List.Perm.refl _) (heap_le hh (by omega)) rfl
    have hp : (l' ++ [its.getD n default]).Perm its := by rw [← hl]
    generalize hx : its.getD n default = x at hl hp ⊢
    rw [hl]
    refine x_skip ?_
    refine n_then ?_
    refine x_seq ?_
    refine x_region ?_
    refine s_val rfl (v_move rfl) ?_
    refine s_do rfl (d_invoke1 rfl ((fun w => m_pop w _)) Try.call243 rfl (rowPop_spec W0 _ b l' x tl)) ?_
    rintro _ B_ ⟨rfl, hB_⟩
    obtain rfl := hB_.symm
    refine s_val rfl (v_assign rfl) ?_
    refine x_nil ?_
    refine n_then ?_
    refine x_ret ?_
    refine x_done (.inl rfl) (.cons (r_tmp rfl) .nil) ?_
    exact ⟨_, ⟨l', rfl, rfl, by first | exact hp | exact List.Perm.refl _, hH⟩, inferInstance⟩
end Go.Proofs.Ytechkfopkpkigaa
