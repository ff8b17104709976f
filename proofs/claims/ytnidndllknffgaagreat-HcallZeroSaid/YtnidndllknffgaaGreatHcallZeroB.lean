/-
  Part 2 of the proof of HcallZero: rules, and walks of functions. Conditions: none.
-/
import Derived.Test.YtnidndllknffgaaGreatHcallZeroA
namespace Go.Proofs.YtnidndllknffgaaGreat
open Go.RowKit
set_option linter.unusedSimpArgs false
set_option linter.unusedVariables false
set_option maxRecDepth 20000
structure HpO (W0 : World) (α : Type) [Hk α] where
  T : TypeId
  p : Value
  el : α → Value
  H : List α → HP
  fL : FuncId
  fE : FuncId
  fS : FuncId
  fU : FuncId
  fO : FuncId
  mL : ∀ w, (method (Tryz.prog.types.size + Made.depth) T p "Len").run Tryz.prog w = .ok (fL, p) w
  mE : ∀ w, (method (Tryz.prog.types.size + Made.depth) T p "Less").run Tryz.prog w = .ok (fE, p) w
  mS : ∀ w, (method (Tryz.prog.types.size + Made.depth) T p "Swap").run Tryz.prog w = .ok (fS, p) w
  mU : ∀ w, (method (Tryz.prog.types.size + Made.depth) T p "Push").run Tryz.prog w = .ok (fU, p) w
  mO : ∀ w, (method (Tryz.prog.types.size + Made.depth) T p "Pop").run Tryz.prog w = .ok (fO, p) w
  cL : ∀ args w, (callFunc fL args).run Tryz.prog w = .ok (.enter fL args) w
  cE : ∀ args w, (callFunc fE args).run Tryz.prog w = .ok (.enter fE args) w
  cS : ∀ args w, (callFunc fS args).run Tryz.prog w = .ok (.enter fS args) w
  cU : ∀ args w, (callFunc fU args).run Tryz.prog w = .ok (.enter fU args) w
  cO : ∀ args w, (callFunc fO args).run Tryz.prog w = .ok (.enter fO args) w
  sL : ∀ R l, Spec Tryz.prog W0 fL [p] (kH 0 (H l) :: R) (fun v B => v = .int .i64 (l.length : Nat) ∧ B = kH 0 (H l) :: R)
  sE : ∀ R l (i j : Nat), i < l.length → j < l.length → Spec Tryz.prog W0 fE [p, .int .i64 i, .int .i64 j] (kH 0 (H l) :: R) (fun v B => v = .bool (decide (Hp.us l i < Hp.us l j)) ∧ B = kH 0 (H l) :: R)
  sS : ∀ R l (i j : Nat), i < l.length → j < l.length → Spec Tryz.prog W0 fS [p, .int .i64 i, .int .i64 j] (kH 0 (H l) :: R) (fun v B => v = .tuple #[] ∧ B = kH 0 (H (Hp.swapL l i j)) :: R)
  sU : ∀ R l x, l.length < 1000 → Spec Tryz.prog W0 fU [p, el x] (kH 0 (H l) :: R) (fun v B => v = .tuple #[] ∧ B = kH 0 (H (l ++ [x])) :: R)
  sO : ∀ R l x, Spec Tryz.prog W0 fO [p] (kH 0 (H (l ++ [x])) :: R) (fun v B => v = el x ∧ B = kH 0 (H l) :: R)
namespace Hp
variable {W0 : World} {α : Type} [Hk α] (o : HpO W0 α)
def iv : Value := .iface o.T o.p
theorem par_quo {j : Nat} (h : j < 1000) : IntKind.wrap .i64 (Int.tdiv ((j : Int) - 1) 2) = (((j - 1) / 2 : Nat) : Int) := by
  by_cases h0 : j = 0
  · subst h0; decide
  · obtain ⟨k, rfl⟩ : ∃ k, j = k + 1 := ⟨j - 1, by omega⟩
    have e : ((k + 1 : Nat) : Int) - 1 = (k : Int) := by omega
    rw [e, Int.tdiv_eq_ediv_of_nonneg (by omega), w64 (by omega)]; simp
theorem heapUp_spec (R : List HP) (its : List α) (j n : Nat) (hn : n ≤ its.length) (hN : n < 1000) (hj : j < n) (hU : Up its j n) :
    Spec Tryz.prog W0 293 [iv o, .int .i64 j] (kH 0 (o.H its) :: R) (fun v B => v = .tuple #[] ∧ ∃ its', B = kH 0 (o.H its') :: R ∧ its'.Perm its ∧ Heap its' n ∧ ∀ x, n ≤ x → its'.getD x default = its.getD x default) := by
  refine spec_body Tryz.func293 Tryz.ntmps293 rfl rfl ?_
  refine x_block ?_
  refine x_loop (fun X : List α × Nat => X.1.Perm its ∧ X.2 < n ∧ Up X.1 X.2 n ∧ ∀ x, n ≤ x → X.1.getD x default = its.getD x default) (fun X => [(0, iv o), (1, .int .i64 X.2)]) (fun X => kH 0 (o.H X.1) :: R) (fun X => X.2) (its, j) ?_ ?_ ?_ ?_
  · exact ⟨List.Perm.refl _, hj, hU, fun _ _ => rfl⟩
  · repeat (first | exact sub_nil | refine sub_cons rfl ?_)
  · exact inferInstance
  · intro ⟨l, j⟩ ⟨hp, hj, hU, ht⟩
    have hlen := hp.length_eq
    simp only at hj hU ht hp hlen ⊢
    refine x_block (x_seq (x_region (s_val rfl (v_move rfl) ?_)))
    refine s_val rfl (v_sub rfl rfl (by first | exact w64 (by omega) | rfl)) ?_
    refine s_val rfl (v_quo rfl rfl (by decide) (par_quo (by omega))) ?_
    refine s_val rfl (v_assign rfl) (x_nil (n_then (x_seq (x_seq (x_region (s_val rfl (v_move rfl) (s_val rfl (v_move rfl) (s_val rfl (v_eql rfl rfl) (s_val rfl (v_move rfl) ?_)))))))))
    refine s_or rfl rfl rfl ?_ ?_
    · intro g1_4
      refine s_no rfl rfl rfl rfl (s_no rfl rfl rfl rfl (s_no rfl rfl rfl rfl (s_no rfl rfl rfl rfl (s_val rfl (v_pick_t rfl rfl) (x_nil (n_then (x_ift rfl (x_exit (e_then (e_block_ne rfl (e_then (e_block (x_done (.inr rfl) .nil ?_)))))))))))))
      exact ⟨_, ⟨rfl, l, rfl, hp, up_heap hU (by intro _; first | omega | (simp at c1; omega)), ht⟩, inferInstance⟩
    · intro g1_4
      refine s_val rfl (v_move rfl) (s_yes rfl rfl (s_val rfl (v_move rfl) (s_yes rfl rfl (s_val rfl (v_move rfl) (s_yes rfl rfl ?_)))))
      refine s_do rfl (d_invoke1 rfl o.mE o.cE rfl (o.sE _ l j ((j - 1) / 2) (by omega) (by omega))) ?_
      rintro _ B_ ⟨rfl, hB_⟩
      obtain rfl := hB_.symm
      refine s_yes rfl rfl (s_val rfl (v_not rfl) (s_val rfl (v_pick_f rfl rfl) (x_nil (n_then ?_))))
      refine x_if rfl ?_ ?_
      · intro c1
        refine x_exit (e_then (e_block_ne rfl (e_then (e_block (x_done (.inr rfl) .nil ?_)))))
        exact ⟨_, ⟨rfl, l, rfl, hp, up_heap hU (by intro _; first | omega | (simp at c1; omega)), ht⟩, inferInstance⟩
      · intro c1
        replace c1 : us l j < us l ((j - 1) / 2) := by simpa using c1
        refine x_skip (n_then (x_seq (x_region (s_val rfl (v_move rfl) (s_val rfl (v_move rfl) (s_val rfl (v_move rfl) ?_))))))
        refine s_do rfl (d_invoke1 rfl o.mS o.cS rfl (o.sS _ l ((j - 1) / 2) j (by omega) (by omega))) ?_
        rintro _ B_ ⟨rfl, hB_⟩
        obtain rfl := hB_.symm
        refine x_nil (n_then (x_region (s_val rfl (v_move rfl) (s_val rfl (v_assign rfl) (x_nil (n_block (n_then ?_)))))))
        refine inv_intro (swapL l ((j - 1) / 2) j, (j - 1) / 2) ?_ ?_ ?_ ?_
        · exact ⟨(swapL_perm (by omega) (by omega)).trans hp, by show (j - 1) / 2 < n; omega, up_swap hU (by omega) hj (by omega) c1, getD_swap_ge (by omega) hj (by omega) ht⟩
        · show (j - 1) / 2 < j; omega
        · repeat (first | exact sub_nil | refine sub_cons rfl ?_)
        · exact inferInstance
theorem heapDown_spec (R : List HP) (its : List α) (i0 n : Nat) (hn : n ≤ its.length) (hN : n < 1000) (hi : i0 ≤ n) (hH : Hole its i0 n) :
    Spec Tryz.prog W0 361 [iv o, .int .i64 i0, .int .i64 n] (kH 0 (o.H its) :: R) (fun v B => ∃ l m, v = .bool m ∧ B = kH 0 (o.H l) :: R ∧ Down its l i0 n m) := by
  refine spec_body Tryz.func361 Tryz.ntmps361 rfl rfl ?_
  refine x_seq (x_region (s_val rfl (v_assign rfl) (x_nil (n_then (x_seq (x_region (s_val rfl (v_move rfl) (s_val rfl (v_assign rfl) (x_nil (n_then (x_seq (x_block ?_))))))))))))
  refine x_loop (fun X : List α × Nat => X.1.Perm its ∧ i0 ≤ X.2 ∧ Hole X.1 X.2 n ∧ (∀ x, n ≤ x → X.1.getD x default = its.getD x default) ∧ (X.2 = i0 → X.1 = its) ∧ (i0 < X.2 → us X.1 ((X.2 - 1) / 2) ≤ us X.1 X.2) ∧ X.2 ≤ n) (fun X => [(0, iv o), (1, .int .i64 i0), (2, .int .i64 n), (7, .int .i64 X.2)]) (fun X => kH 0 (o.H X.1) :: R) (fun X => n - X.2) (its, i0) ?_ ?_ ?_ ?_
  · exact ⟨List.Perm.refl _, Nat.le_refl _, hH, fun _ _ => rfl, fun _ => rfl, fun h => absurd h (Nat.lt_irrefl _), hi⟩
  · repeat (first | exact sub_nil | refine sub_cons rfl ?_)
  · exact inferInstance
  · intro ⟨l, i⟩ ⟨hp, hi0, hl, ht, he, hg, hin⟩
    have hlen := hp.length_eq
    simp only at hp hi0 hl ht he hg hin hlen ⊢
    refine x_block (x_seq (x_region (s_val rfl (v_move rfl) ?_)))
    refine s_val rfl (v_mul rfl rfl (by first | exact w64 (by omega) | rfl)) ?_
    refine s_val rfl (v_add rfl rfl (by rw [w64 (by omega)]; omega : IntKind.wrap .i64 (2 * (i : Int) + 1) = ((2 * i + 1 : Nat) : Int))) ?_
    refine s_val rfl (v_assign rfl) (x_nil (n_then (x_seq (x_seq (x_region (s_val rfl (v_move rfl) (s_val rfl (v_move rfl) (s_val rfl (v_geq rfl rfl) (s_val rfl (v_move rfl) ?_)))))))))
    refine s_or rfl rfl rfl ?_ ?_
    · intro g3_4
      refine s_no rfl rfl rfl rfl (s_val rfl (v_pick_t rfl rfl) (x_nil (n_then (x_ift rfl (x_exit (e_then (e_block_ne rfl (e_then (e_block (n_then (x_seq (x_region (s_val rfl (v_move rfl) (s_val rfl (v_move rfl) (s_val rfl (v_gtr rfl rfl) (s_val rfl (v_assign rfl) (x_nil (n_then (x_ret (x_done (.inl rfl) (.cons (r_tmp rfl) .nil) ?_))))))))))))))))))))
      refine ⟨_, ⟨l, decide (i0 < i), by simp [pack], rfl, down_done hp hi0 hl ht he hg ?_⟩, inferInstance⟩
      first | (intro c hc h0 h1; exfalso; omega) | (intro c hc h0 h1; have := hmin c hc h0 h1; simp at c8; omega)
    · intro g3_4
      refine s_val rfl (v_move rfl) (s_yes rfl rfl (s_val rfl (v_lss rfl rfl) (s_val rfl (v_pick_f rfl rfl) (x_nil (n_then ?_)))))
      refine x_if rfl ?_ ?_
      · intro c3
        omega
      · intro c3
        refine x_skip (n_then (x_seq (x_region (s_val rfl (v_move rfl) (s_val rfl (v_assign rfl) (x_nil (n_then ?_)))))))
        refine x_cut (fun j : Nat => (j - 1) / 2 = i ∧ 0 < j ∧ j < n ∧ ∀ c, c < n → 0 < c → (c - 1) / 2 = i → us l j ≤ us l c) (fun j => [(0, iv o), (1, .int .i64 i0), (2, .int .i64 n), (7, .int .i64 i), (9, .int .i64 j)]) (fun j => kH 0 (o.H l) :: R) ?_ ?_
        · skip
          refine x_seq (x_region (s_val rfl (v_move rfl) ?_))
          refine s_val rfl (v_add rfl rfl (by rw [w64 (by omega)]; omega : IntKind.wrap .i64 (((2 * i + 1 : Nat) : Int) + 1) = ((2 * i + 2 : Nat) : Int))) ?_
          refine s_val rfl (v_assign rfl) (x_nil (n_then (x_seq (x_region (s_val rfl (v_move rfl) (s_val rfl (v_move rfl) (s_val rfl (v_lss rfl rfl) (s_val rfl (v_move rfl) ?_))))))))
          refine s_and rfl rfl rfl ?_ ?_
          · intro g6_4
            refine s_val rfl (v_move rfl) (s_yes rfl rfl (s_val rfl (v_move rfl) (s_yes rfl rfl (s_val rfl (v_move rfl) (s_yes rfl rfl ?_)))))
            refine s_do rfl (d_invoke1 rfl o.mE o.cE rfl (o.sE _ l (2 * i + 2) (2 * i + 1) (by omega) (by omega))) ?_
            rintro _ B_ ⟨rfl, hB_⟩
            obtain rfl := hB_.symm
            refine s_val rfl (v_pick_t rfl rfl) (x_nil (n_then ?_))
            refine x_if rfl ?_ ?_
            · intro c6
              refine x_region (s_val rfl (v_move rfl) (s_val rfl (v_assign rfl) (x_nil (n_then ?_))))
              refine mid_intro (2 * i + 2) ?_ ?_ ?_
              · refine ⟨by omega, by omega, by omega, fun c hc h0 h1 => ?_⟩
                have : c = 2 * i + 1 ∨ c = 2 * i + 2 := by omega
                rcases this with rfl | rfl <;> (first | omega | (simp at c6; omega) | (simp at c3; omega))
              · repeat (first | exact sub_nil | refine sub_cons rfl ?_)
              · exact inferInstance
            · intro c6
              refine x_skip (n_then ?_)
              refine mid_intro (2 * i + 1) ?_ ?_ ?_
              · refine ⟨by omega, by omega, by omega, fun c hc h0 h1 => ?_⟩
                have : c = 2 * i + 1 ∨ c = 2 * i + 2 := by omega
                rcases this with rfl | rfl <;> (first | omega | (simp at c6; omega) | (simp at c3; omega))
              · repeat (first | exact sub_nil | refine sub_cons rfl ?_)
              · exact inferInstance
          · intro g6_4
            refine s_no rfl rfl rfl rfl (s_no rfl rfl rfl rfl (s_no rfl rfl rfl rfl (s_val rfl (v_pick_f rfl rfl) (x_nil (n_then (x_iff rfl (x_skip (n_then ?_))))))))
            refine mid_intro (2 * i + 1) ?_ ?_ ?_
            · refine ⟨by omega, by omega, by omega, fun c hc h0 h1 => ?_⟩
              have : c = 2 * i + 1 ∨ c = 2 * i + 2 := by omega
              rcases this with rfl | rfl <;> (first | omega | (simp at c6; omega) | (simp at c3; omega))
            · repeat (first | exact sub_nil | refine sub_cons rfl ?_)
            · exact inferInstance
        · intro j ⟨hj, hj0, hjn, hmin⟩
          refine x_seq (x_seq (x_region (s_val rfl (v_move rfl) (s_val rfl (v_move rfl) (s_val rfl (v_move rfl) ?_)))))
          refine s_do rfl (d_invoke1 rfl o.mE o.cE rfl (o.sE _ l j i (by omega) (by omega))) ?_
          rintro _ B_ ⟨rfl, hB_⟩
          obtain rfl := hB_.symm
          refine s_val rfl (v_not rfl) (x_nil (n_then ?_))
          refine x_if rfl ?_ ?_
          · intro c8
            refine x_exit (e_then (e_block_ne rfl (e_then (e_block (n_then (x_seq (x_region (s_val rfl (v_move rfl) (s_val rfl (v_move rfl) (s_val rfl (v_gtr rfl rfl) (s_val rfl (v_assign rfl) (x_nil (n_then (x_ret (x_done (.inl rfl) (.cons (r_tmp rfl) .nil) ?_)))))))))))))))
            refine ⟨_, ⟨l, decide (i0 < i), by simp [pack], rfl, down_done hp hi0 hl ht he hg ?_⟩, inferInstance⟩
            first | (intro c hc h0 h1; exfalso; omega) | (intro c hc h0 h1; have := hmin c hc h0 h1; simp at c8; omega)
          · intro c8
            replace c8 : us l j < us l i := by simpa using c8
            refine x_skip (n_then (x_seq (x_region (s_val rfl (v_move rfl) (s_val rfl (v_move rfl) (s_val rfl (v_move rfl) ?_))))))
            refine s_do rfl (d_invoke1 rfl o.mS o.cS rfl (o.sS _ l i j (by omega) (by omega))) ?_
            rintro _ B_ ⟨rfl, hB_⟩
            obtain rfl := hB_.symm
            refine x_nil (n_then (x_region (s_val rfl (v_move rfl) (s_val rfl (v_assign rfl) (x_nil (n_block (n_then ?_)))))))
            refine inv_intro (swapL l i j, j) ?_ ?_ ?_ ?_
            · have hs := hole_swap hl (by omega) hjn hj hj0 c8 hmin
              exact ⟨(swapL_perm (by omega) (by omega)).trans hp, by show i0 ≤ j; omega, hs.1, getD_swap_ge (by omega) hjn (by omega) ht, by show j = i0 → _; omega, fun _ => hs.2, by show j ≤ n; omega⟩
            · show n - j < n - i; omega
            · repeat (first | exact sub_nil | refine sub_cons rfl ?_)
            · exact inferInstance
theorem push_up {its : List α} {x : α} (h : Heap its its.length) : Up (its ++ [x]) its.length (its.length + 1) := by
  have e : ∀ c, c < its.length → us (its ++ [x]) c = us its c := fun c hc => by
    unfold us; simp only [List.getD_eq_getElem?_getD]; rw [List.getElem?_append_left hc]
  intro c hc h0
  refine ⟨fun h1 => ?_, fun h1 h2 => by omega⟩
  rw [e c (by omega), e _ (by omega)]; exact h c (by omega) h0
theorem heapPush_spec (R : List HP) (its : List α) (x : α) (hN : its.length < 900) (hh : Heap its its.length) :
    Spec Tryz.prog W0 176 [iv o, o.el x] (kH 0 (o.H its) :: R) (fun v B => v = .tuple #[] ∧ ∃ its', B = kH 0 (o.H its') :: R ∧ its'.Perm (its ++ [x]) ∧ Heap its' its'.length) := by
  have hl : (its ++ [x]).length = its.length + 1 := by simp
  refine spec_body Tryz.func176 Tryz.ntmps176 rfl rfl ?_
  refine x_seq (x_region (s_val rfl (v_move rfl) (s_val rfl (v_move rfl) ?_)))
  refine s_do rfl (d_invoke1 rfl o.mU o.cU rfl (o.sU _ its x (by omega))) ?_
  rintro _ B_ ⟨rfl, hB_⟩
  obtain rfl := hB_.symm
  refine x_nil (n_then (x_region (s_val rfl (v_move rfl) (s_val rfl (v_move rfl) (s_do rfl (d_invoke1 rfl o.mL o.cL rfl (o.sL _ (its ++ [x]))) ?_)))))
  rintro _ B_ ⟨rfl, hB_⟩
  obtain rfl := hB_.symm
  refine s_val rfl (v_sub rfl rfl (by rw [w64 (by omega)]; omega : IntKind.wrap .i64 (((its ++ [x]).length : Nat) - 1 : Int) = ((its.length : Nat) : Int))) ?_
  refine s_do rfl (d_call1 Tryz.call293 rfl (heapUp_spec o _ (its ++ [x]) its.length (its.length + 1) (by omega) (by omega) (by omega) (push_up hh))) ?_
  rintro _ _ ⟨rfl, l', rfl, hp, hh', _⟩
  refine x_nil (x_done (.inr rfl) .nil ?_)
  exact ⟨_, ⟨rfl, l', rfl, hp, by rw [hp.length_eq, hl]; exact hh'⟩, inferInstance⟩
theorem last_split {l : List α} {n : Nat} (h : l.length = n + 1) : ∃ l' x, l = l' ++ [x] ∧ l'.length = n ∧ x = l.getD n default := by
  have hne : l ≠ [] := fun e => by rw [e] at h; simp at h
  refine ⟨l.dropLast, l.getLast hne, (List.dropLast_concat_getLast hne).symm, by simp [h], ?_⟩
  rw [List.getLast_eq_getElem]
  simp [List.getD, h]
theorem heap_front {l : List α} {x : α} {n : Nat} (h : Heap (l ++ [x]) n) (hn : n ≤ l.length) : Heap l n :=
  heap_congr (fun i hi => by simp only [List.getD_eq_getElem?_getD]; rw [List.getElem?_append_left (by omega)]) h
theorem heapPop_spec (R : List HP) (its : List α) (hN : its.length < 900) (h0 : its ≠ []) (hh : Heap its its.length) :
    Spec Tryz.prog W0 300 [iv o] (kH 0 (o.H its) :: R) (fun v B => ∃ x its', v = o.el x ∧ B = kH 0 (o.H its') :: R ∧ (its' ++ [x]).Perm its ∧ Heap its' its'.length ∧ ∀ y ∈ its, Hk.ky x ≤ Hk.ky y) := by
  obtain ⟨n, hn⟩ : ∃ n, its.length = n + 1 := ⟨its.length - 1, by have := List.length_pos_iff.2 h0; omega⟩
  have hs : Hole (swapL its 0 n) 0 n := fun c hc h0 => ⟨fun h1 h2 => by
    rw [us_swapL (by omega) (by omega), us_swapL (by omega) (by omega), if_neg h2, if_neg h1, if_neg (by omega), if_neg (by omega)]
    exact hh c (by omega) h0, fun _ h => by omega⟩
  have hsl := swapL_length its 0 n
  refine spec_body Tryz.func300 Tryz.ntmps300 rfl rfl ?_
  refine x_seq (x_region (s_val rfl (v_assign rfl) (x_nil (n_then (x_seq (x_region (s_val rfl (v_move rfl) (s_do rfl (d_invoke1 rfl o.mL o.cL rfl (o.sL _ its)) ?_))))))))
  rintro _ B_ ⟨rfl, hB_⟩
  obtain rfl := hB_.symm
  refine s_val rfl (v_sub rfl rfl (by rw [w64 (by omega)]; omega : IntKind.wrap .i64 ((its.length : Nat) - 1 : Int) = ((n : Nat) : Int))) ?_
  refine s_val rfl (v_assign rfl) (x_nil (n_then (x_seq (x_region (s_val rfl (v_move rfl) (s_val rfl (v_move rfl) ?_))))))
  refine s_do rfl (d_invoke1 rfl o.mS o.cS rfl (o.sS _ its 0 n (by omega) (by omega))) ?_
  rintro _ B_ ⟨rfl, hB_⟩
  obtain rfl := hB_.symm
  refine x_nil (n_then (x_seq (x_region (s_val rfl (v_move rfl) (s_val rfl (v_move rfl) ?_)))))
  refine s_do rfl (d_call1 Tryz.call361 rfl (heapDown_spec o _ (swapL its 0 n) 0 n (by omega) (by omega) (by omega) hs)) ?_
  rintro _ _ ⟨l, m, rfl, rfl, hD⟩
  have hll := hD.perm.length_eq
  obtain ⟨l', x, rfl, hl', hx⟩ := last_split (l := l) (n := n) (by omega)
  have hx0 : x = its.getD 0 default := by
    rw [hx, hD.tail n (Nat.le_refl _), getD_swapL (by omega) (by omega)]; split
    · rename_i e; subst e; rfl
    · rw [if_pos rfl]
  have hp : (l' ++ [x]).Perm its := hD.perm.trans (swapL_perm (by omega) (by omega))
  have hH : Heap (l' ++ [x]) n := by
    cases m with
    | true => exact hD.yes rfl
    | false =>
      obtain ⟨e, hmin⟩ := hD.no rfl
      rw [e]; exact hole_heap hs hmin (fun h => absurd h (by omega))
  refine x_nil (n_then (x_seq (x_region (s_val rfl (v_move rfl) (s_do rfl (d_invoke1 rfl o.mO o.cO rfl (o.sO _ l' x)) ?_)))))
  rintro _ B_ ⟨rfl, hB_⟩
  obtain rfl := hB_.symm
  refine s_val rfl (v_assign rfl) (x_nil (n_then (x_ret (x_done (.inl rfl) (.cons (r_tmp rfl) .nil) ?_))))
  refine ⟨_, ⟨x, l', rfl, rfl, hp, by rw [hl']; exact heap_front hH (by omega), fun y hy => ?_⟩, inferInstance⟩
  obtain ⟨c, hc, rfl⟩ := List.mem_iff_getElem.1 hy
  have := heap_min hh c hc
  rw [us_eq hc] at this
  rw [hx0]; exact this
end Hp
end Go.Proofs.YtnidndllknffgaaGreat
namespace Go.Proofs.YtnidndllknffgaaGreat
open Go.RowKit
set_option linter.unusedSimpArgs false
set_option linter.unusedVariables false
set_option maxRecDepth 20000
theorem ofInt64_nat {a : Nat} (h : a < 9223372036854775808) : (BitVec.ofInt 64 (a : Int)).toNat = a := by
  rw [BitVec.toNat_ofInt]; omega
theorem bAnd_i64 {a b : Nat} (ha : a < 9223372036854775808) (hb : b < 9223372036854775808) : bAnd .i64 a b = ((a &&& b : Nat) : Int) := by
  have h : a &&& b < 9223372036854775808 := Nat.lt_of_le_of_lt Nat.and_le_left ha
  show IntKind.wrap .i64 ((BitVec.ofInt 64 (a : Int) &&& BitVec.ofInt 64 (b : Int)).toNat : Int) = _
  rw [BitVec.toNat_and, ofInt64_nat ha, ofInt64_nat hb, w64 (by omega)]
theorem bAndNot_i64 {a b : Nat} (ha : a < 9223372036854775808) (hb : b < 9223372036854775808) : bAndNot .i64 a b = ((a - (a &&& b) : Nat) : Int) := by
  have hle : a &&& b ≤ a := Nat.and_le_left
  generalize hx : BitVec.ofInt 64 (a : Int) = x
  generalize hy : BitVec.ofInt 64 (b : Int) = y
  have ex : x.toNat = a := by rw [← hx]; exact ofInt64_nat ha
  have ey : y.toNat = b := by rw [← hy]; exact ofInt64_nat hb
  have e : (x &&& ~~~ y).toNat = a - (a &&& b) := by
    have hz : (x &&& ~~~ y) &&& (x &&& y) = 0#64 := by
      ext i hi
      simp only [BitVec.getElem_and, BitVec.getElem_not, BitVec.getElem_zero]
      cases x[i] <;> cases y[i] <;> rfl
    have h1 : (x &&& ~~~ y) + (x &&& y) = x := by
      rw [BitVec.add_eq_or_of_and_eq_zero _ _ hz]
      ext i hi
      simp only [BitVec.getElem_or, BitVec.getElem_and, BitVec.getElem_not]
      cases x[i] <;> cases y[i] <;> rfl
    have h2 := congrArg BitVec.toNat h1
    rw [BitVec.toNat_add_of_and_eq_zero hz, BitVec.toNat_and x y, ex, ey] at h2
    omega
  show IntKind.wrap .i64 ((BitVec.ofInt 64 (a : Int) &&& ~~~ BitVec.ofInt 64 (b : Int)).toNat : Int) = _
  rw [hx, hy, e, w64 (by omega)]
def isL (l : Int) : Bool := decide (0 ≤ l ∧ l < 256)
theorem isL_iff {l : Int} : isL l = true ↔ 0 ≤ l ∧ l < 256 := by simp [isL]
def flB (a b : Int) : Bool := isL a && isL b && decide (a.toNat - (a.toNat &&& b.toNat) = 0)
theorem flB_no {a b : Int} (h : ¬ (isL a = true ∧ isL b = true)) : flB a b = false := by
  rw [← Bool.not_eq_true]; intro q
  simp only [flB, Bool.and_eq_true] at q
  exact h q.1
theorem and_self_iff {a b : Nat} (ha : a < 256) : a - (a &&& b) = 0 ↔ ∀ c, c < 8 → a.testBit c = true → b.testBit c = true := by
  have hle : a &&& b ≤ a := Nat.and_le_left
  constructor
  · intro h c _ hc
    have e : a &&& b = a := by omega
    have := congrArg (fun n => n.testBit c) e
    simp only [Nat.testBit_and, hc, Bool.true_and] at this
    exact this
  · intro h
    have e : a &&& b = a := by
      apply Nat.eq_of_testBit_eq
      intro i
      rw [Nat.testBit_and]
      by_cases hi : i < 8
      · cases ha' : a.testBit i with
        | false => rfl
        | true => rw [h i hi ha']; rfl
      · have : a.testBit i = false := Nat.testBit_lt_two_pow (Nat.lt_of_lt_of_le ha (Nat.pow_le_pow_right (n := 2) (by decide) (show 8 ≤ i by omega)))
        rw [this]; rfl
    omega
theorem lbIs_spec (W0 : World) (R : List HP) (l : Int) : Spec Tryz.prog W0 264 [.int .i64 l] R (fun v B => v = .bool (isL l) ∧ B = R) := by
  refine spec_body Tryz.func264 Tryz.ntmps264 rfl rfl ?_
  refine x_seq (x_region (s_val rfl (v_assign rfl) (x_nil (n_then (x_seq (x_region (s_val rfl (v_move rfl) (s_val rfl (v_geq rfl rfl) (s_val rfl (v_move rfl) ?_)))))))))
  refine s_and rfl rfl rfl ?_ ?_
  · intro g1_3
    refine s_val rfl (v_move rfl) (s_yes rfl rfl (s_val rfl (v_leq rfl rfl) (s_val rfl (v_pick_t rfl rfl) (s_val rfl (v_assign rfl) (x_nil (n_then (x_ret (x_done (.inl rfl) (.cons (r_tmp rfl) .nil) ?_))))))))
    refine ⟨_, ⟨?_, rfl⟩, inferInstance⟩
    refine congrArg Value.bool ?_
    rw [Bool.eq_iff_iff]; simp only [isL, decide_eq_true_eq, Bool.false_eq_true, false_iff]; omega
  · intro g1_3
    refine s_no rfl rfl rfl rfl (s_val rfl (v_pick_f rfl rfl) (s_val rfl (v_assign rfl) (x_nil (n_then (x_ret (x_done (.inl rfl) (.cons (r_tmp rfl) .nil) ?_))))))
    refine ⟨_, ⟨?_, rfl⟩, inferInstance⟩
    refine congrArg Value.bool ?_
    rw [Bool.eq_iff_iff]; simp only [isL, decide_eq_true_eq, Bool.false_eq_true, false_iff]; omega
theorem lbFlows_spec (W0 : World) (R : List HP) (a b : Int) : Spec Tryz.prog W0 254 [.int .i64 a, .int .i64 b] R (fun v B => v = .bool (flB a b) ∧ B = R) := by
  refine spec_body Tryz.func254 Tryz.ntmps254 rfl rfl ?_
  refine x_seq (x_region (s_val rfl (v_assign rfl) (x_nil (n_then (x_seq (x_region (s_val rfl (v_move rfl) (s_do rfl (d_call Tryz.call264 rfl (lbIs_spec W0 _ a)) ?_))))))))
  rintro _ B_ ⟨rfl, hB_⟩
  obtain rfl := hB_.symm
  refine s_val rfl (v_move rfl) ?_
  refine s_and rfl rfl rfl ?_ ?_
  · intro g1_3
    refine s_val rfl (v_move rfl) (s_yes rfl rfl (s_do rfl (d_call Tryz.call264 rfl (lbIs_spec W0 _ b)) ?_))
    rintro _ B_ ⟨rfl, hB_⟩
    obtain rfl := hB_.symm
    refine s_val rfl (v_pick_t rfl rfl) (s_val rfl (v_move rfl) ?_)
    refine s_and rfl rfl rfl ?_ ?_
    · intro g1_7
      obtain ⟨x, rfl, hx⟩ : ∃ x : Nat, a = (x : Int) ∧ x < 256 := ⟨a.toNat, by have := isL_iff.1 g1_3; omega, by have := isL_iff.1 g1_3; omega⟩
      obtain ⟨y, rfl, hy⟩ : ∃ y : Nat, b = (y : Int) ∧ y < 256 := ⟨b.toNat, by have := isL_iff.1 g1_7; omega, by have := isL_iff.1 g1_7; omega⟩
      refine s_val rfl (v_move rfl) (s_yes rfl rfl (s_val rfl (v_move rfl) (s_yes rfl rfl ?_)))
      refine s_val rfl (v_andNot rfl rfl (bAndNot_i64 (by omega) (by omega))) ?_
      refine s_yes rfl rfl (s_val rfl (v_eql rfl rfl) (s_val rfl (v_pick_t rfl rfl) (s_val rfl (v_assign rfl) (x_nil (n_then (x_ret (x_done (.inl rfl) (.cons (r_tmp rfl) .nil) ?_)))))))
      refine ⟨_, ⟨?_, rfl⟩, inferInstance⟩
      first
        | (rw [hno]; rfl)
        | (refine congrArg Value.bool ?_
           rw [Bool.eq_iff_iff, beq_iff_eq, flB, g1_3, g1_7, Int.toNat_natCast, Int.toNat_natCast]
           simp only [Bool.and_self, Bool.true_and, decide_eq_true_iff]
           omega)
    · intro g1_7
      have hno := flB_no (a := a) (b := b) (fun q => g1_7 q.2)
      refine s_no rfl rfl rfl rfl (s_no rfl rfl rfl rfl (s_no rfl rfl rfl rfl (s_val rfl (v_pick_f rfl rfl) (s_val rfl (v_assign rfl) (x_nil (n_then (x_ret (x_done (.inl rfl) (.cons (r_tmp rfl) .nil) ?_))))))))
      refine ⟨_, ⟨?_, rfl⟩, inferInstance⟩
      first
        | (rw [hno]; rfl)
        | (refine congrArg Value.bool ?_
           rw [Bool.eq_iff_iff, beq_iff_eq, flB, g1_3, g1_7, Int.toNat_natCast, Int.toNat_natCast]
           simp only [Bool.and_self, Bool.true_and, decide_eq_true_iff]
           omega)
  · intro g1_3
    have hno := flB_no (a := a) (b := b) (fun q => g1_3 q.1)
    refine s_no rfl rfl rfl rfl (s_val rfl (v_pick_f rfl rfl) (s_val rfl (v_move rfl) (s_no rfl rfl rfl rfl (s_no rfl rfl rfl rfl (s_no rfl rfl rfl rfl (s_no rfl rfl rfl rfl (s_val rfl (v_pick_f rfl rfl) (s_val rfl (v_assign rfl) (x_nil (n_then (x_ret (x_done (.inl rfl) (.cons (r_tmp rfl) .nil) ?_))))))))))))
    refine ⟨_, ⟨?_, rfl⟩, inferInstance⟩
    first
      | (rw [hno]; rfl)
      | (refine congrArg Value.bool ?_
         rw [Bool.eq_iff_iff, beq_iff_eq, flB, g1_3, g1_7, Int.toNat_natCast, Int.toNat_natCast]
         simp only [Bool.and_self, Bool.true_and, decide_eq_true_iff]
         omega)
theorem lbCount_spec (W0 : World) (R : List HP) (l : Int) : Spec Tryz.prog W0 126 [.int .i64 l] R (fun v B => ∃ n : Int, v = .int .i64 n ∧ (decide (n < 0) = !isL l) ∧ B = R) := by
  refine spec_body Tryz.func126 Tryz.ntmps126 rfl rfl ?_
  refine x_seq (x_region (s_val rfl (v_assign rfl) (x_nil (n_then (x_seq (x_seq (x_region (s_val rfl (v_move rfl) (s_do rfl (d_call Tryz.call264 rfl (lbIs_spec W0 _ l)) ?_)))))))))
  rintro _ B_ ⟨rfl, hB_⟩
  obtain rfl := hB_.symm
  refine s_val rfl (v_not rfl) (x_nil (n_then ?_))
  refine x_if rfl ?_ ?_
  · intro c1
    refine x_seq (x_region (s_val rfl (v_assign rfl) (x_nil (n_then (x_ret (r_then (x_done (.inl rfl) (.cons (r_tmp rfl) .nil) ?_)))))))
    have h : isL l = false := by simpa using c1
    exact ⟨_, ⟨-1, rfl, by rw [h]; rfl, rfl⟩, inferInstance⟩
  · intro c1
    have hl : isL l = true := Decidable.not_not.1 c1
    obtain ⟨x, rfl, hx⟩ : ∃ x : Nat, l = (x : Int) ∧ x < 256 := ⟨l.toNat, by have := isL_iff.1 hl; omega, by have := isL_iff.1 hl; omega⟩
    refine x_skip (n_then (x_seq (x_region (s_val rfl (v_assign rfl) (x_nil (n_then (x_seq (x_block ?_))))))))
    refine x_loop (fun X : Nat × Nat => X.1 + X.2 ≤ 256) (fun X => [(0, .int .i64 X.1), (3, .int .i64 X.2)]) (fun X => R) (fun X => X.1) (x, 0) ?_ ?_ ?_ ?_
    · show x + 0 ≤ 256; omega
    · repeat (first | exact sub_nil | refine sub_cons rfl ?_)
    · exact inferInstance
    · intro ⟨k, n⟩ hk
      dsimp only at hk ⊢
      refine x_seq (x_seq (x_region (s_val rfl (v_move rfl) (s_val rfl (v_neq rfl rfl) (x_nil (n_then ?_))))))
      refine x_if rfl ?_ ?_
      · intro c4
        have hk0 : 0 < k := by omega
        have hlt : k &&& (k - 1) ≤ k - 1 := Nat.and_le_right
        refine x_skip (n_then (x_seq (x_block (x_region (s_val rfl (v_move rfl) ?_)))))
        refine s_val rfl (v_add rfl rfl (by rw [w64 (by omega)]; omega : IntKind.wrap .i64 ((n : Int) + 1) = ((n + 1 : Nat) : Int))) ?_
        refine s_val rfl (v_assign rfl) (x_nil (n_block (n_then (x_region (s_val rfl (v_move rfl) (s_val rfl (v_move rfl) ?_))))))
        refine s_val rfl (v_sub rfl rfl (by rw [w64 (by omega)]; omega : IntKind.wrap .i64 ((k : Int) - 1) = ((k - 1 : Nat) : Int))) ?_
        refine s_val rfl (v_and rfl rfl (bAnd_i64 (by omega) (by omega))) ?_
        refine s_val rfl (v_assign rfl) (x_nil (n_then ?_))
        refine inv_intro (k &&& (k - 1), n + 1) ?_ ?_ ?_ ?_
        · show (k &&& (k - 1)) + (n + 1) ≤ 256; omega
        · show k &&& (k - 1) < k; omega
        · repeat (first | exact sub_nil | refine sub_cons rfl ?_)
        · exact inferInstance
      · intro c4
        refine x_exit (e_then (e_then (e_block (n_then (x_seq (x_region (s_val rfl (v_move rfl) (s_val rfl (v_assign rfl) (x_nil (n_then (x_ret (x_done (.inl rfl) (.cons (r_tmp rfl) .nil) ?_))))))))))))
        exact ⟨_, ⟨(n : Int), rfl, by rw [hl]; simp, rfl⟩, inferInstance⟩
theorem rlIs_spec (W0 : World) (R : List HP) (l : Int) : Spec Tryz.prog W0 195 [.int .i64 l] R (fun v B => v = .bool (isL l) ∧ B = R) := by
  refine spec_body Tryz.func195 Tryz.ntmps195 rfl rfl ?_
  refine x_seq (x_region (s_val rfl (v_assign rfl) (x_nil (n_then (x_seq (x_region (s_val rfl (v_move rfl) (s_val rfl (v_geq rfl rfl) (s_val rfl (v_move rfl) ?_)))))))))
  refine s_and rfl rfl rfl ?_ ?_
  · intro g1_3
    refine s_val rfl (v_move rfl) (s_yes rfl rfl (s_val rfl (v_lss rfl rfl) (s_val rfl (v_pick_t rfl rfl) (s_val rfl (v_assign rfl) (x_nil (n_then (x_ret (x_done (.inl rfl) (.cons (r_tmp rfl) .nil) ?_))))))))
    refine ⟨_, ⟨?_, rfl⟩, inferInstance⟩
    refine congrArg Value.bool ?_
    rw [Bool.eq_iff_iff]; simp only [isL, decide_eq_true_eq, Bool.false_eq_true, false_iff]; omega
  · intro g1_3
    refine s_no rfl rfl rfl rfl (s_val rfl (v_pick_f rfl rfl) (s_val rfl (v_assign rfl) (x_nil (n_then (x_ret (x_done (.inl rfl) (.cons (r_tmp rfl) .nil) ?_))))))
    refine ⟨_, ⟨?_, rfl⟩, inferInstance⟩
    refine congrArg Value.bool ?_
    rw [Bool.eq_iff_iff]; simp only [isL, decide_eq_true_eq, Bool.false_eq_true, false_iff]; omega
theorem rlHas_spec (W0 : World) (R : List HP) (l c : Nat) (hl : l < 256) (hc : c < 8) : Spec Tryz.prog W0 360 [.int .i64 l, .int .i64 c] R (fun v B => v = .bool (l.testBit c) ∧ B = R) := by
  have hd : l / 2 ^ c < 256 := Nat.lt_of_le_of_lt (Nat.div_le_self _ _) hl
  refine spec_body Tryz.func360 Tryz.ntmps360 rfl rfl ?_
  refine x_seq (x_region (s_val rfl (v_assign rfl) (x_nil (n_then (x_seq (x_region (s_val rfl (v_move rfl) (s_val rfl (v_move rfl) ?_))))))))
  refine s_val rfl (v_shr rfl rfl (by omega) (bShr_nat (k := .i64) (a := l) (s := c) (by show c ≤ 64; omega))) ?_
  refine s_val rfl (v_and rfl rfl (bAnd_i64 (a := l / 2 ^ c) (b := 1) (by omega) (by decide))) ?_
  refine s_val rfl (v_eql rfl rfl) (s_val rfl (v_assign rfl) (x_nil (n_then (x_ret (x_done (.inl rfl) (.cons (r_tmp rfl) .nil) ?_)))))
  refine ⟨_, ⟨?_, rfl⟩, inferInstance⟩
  refine congrArg Value.bool ?_
  rw [Bool.eq_iff_iff, beq_iff_eq, show (l / 2 ^ c) &&& 1 = l / 2 ^ c % 2 from and_low (a := l / 2 ^ c) (n := 1), Nat.testBit_eq_decide_div_mod_eq, decide_eq_true_iff]
  omega
theorem rlFlows_spec (W0 : World) (R : List HP) (a b : Int) : Spec Tryz.prog W0 295 [.int .i64 a, .int .i64 b] R (fun v B => v = .bool (flB a b) ∧ B = R) := by
  refine spec_body Tryz.func295 Tryz.ntmps295 rfl rfl ?_
  refine x_seq (x_region (s_val rfl (v_assign rfl) (x_nil (n_then (x_seq (x_seq (x_region (s_val rfl (v_move rfl) (s_do rfl (d_call Tryz.call195 rfl (rlIs_spec W0 _ a)) ?_)))))))))
  rintro _ B_ ⟨rfl, hB_⟩
  obtain rfl := hB_.symm
  refine s_val rfl (v_not rfl) (s_val rfl (v_move rfl) ?_)
  refine s_or rfl rfl rfl ?_ ?_
  · intro g1_4
    refine s_no rfl rfl rfl rfl (s_no rfl rfl rfl rfl (s_val rfl (v_pick_t rfl rfl) (x_nil (n_then (x_ift rfl (x_seq (x_region (s_val rfl (v_assign rfl) (x_nil (n_then (x_ret (r_then (x_done (.inl rfl) (.cons (r_tmp rfl) .nil) ?_)))))))))))))
    refine ⟨_, ⟨?_, rfl⟩, inferInstance⟩
    rw [flB_no (fun q => by simp_all)]; rfl
  · intro g1_4
    refine s_val rfl (v_move rfl) (s_yes rfl rfl (s_do rfl (d_call Tryz.call195 rfl (rlIs_spec W0 _ b)) ?_))
    rintro _ B_ ⟨rfl, hB_⟩
    obtain rfl := hB_.symm
    refine s_yes rfl rfl (s_val rfl (v_not rfl) (s_val rfl (v_pick_f rfl rfl) (x_nil (n_then ?_))))
    refine x_if rfl ?_ ?_
    · intro c1
      refine x_seq (x_region (s_val rfl (v_assign rfl) (x_nil (n_then (x_ret (r_then (x_done (.inl rfl) (.cons (r_tmp rfl) .nil) ?_)))))))
      refine ⟨_, ⟨?_, rfl⟩, inferInstance⟩
      rw [flB_no (fun q => by simp_all)]; rfl
    · intro c1
      have ha : isL a = true := by simpa using g1_4
      have hb : isL b = true := by simpa using c1
      obtain ⟨x, rfl, hx⟩ : ∃ x : Nat, a = (x : Int) ∧ x < 256 := ⟨a.toNat, by have := isL_iff.1 ha; omega, by have := isL_iff.1 ha; omega⟩
      obtain ⟨y, rfl, hy⟩ : ∃ y : Nat, b = (y : Int) ∧ y < 256 := ⟨b.toNat, by have := isL_iff.1 hb; omega, by have := isL_iff.1 hb; omega⟩
      refine x_skip (n_then (x_seq (x_seq (x_region (s_val rfl (v_assign rfl) (x_nil (n_then (x_block ?_))))))))
      refine x_loop (fun i : Nat => i ≤ 8 ∧ ∀ c, c < i → x.testBit c = true → y.testBit c = true) (fun i => [(0, .int .i64 x), (1, .int .i64 y), (5, .int .i64 i)]) (fun i => R) (fun i => 8 - i) 0 ?_ ?_ ?_ ?_
      · exact ⟨Nat.zero_le _, fun c h => absurd h (Nat.not_lt_zero _)⟩
      · repeat (first | exact sub_nil | refine sub_cons rfl ?_)
      · exact inferInstance
      · intro i ⟨hi, hI⟩
        refine x_seq (x_seq (x_region (s_val rfl (v_move rfl) (s_val rfl (v_lss rfl rfl) (x_nil (n_then ?_))))))
        refine x_if rfl ?_ ?_
        · intro c4
          refine x_skip (n_then (x_seq (x_block (x_seq (x_region (s_val rfl (v_move rfl) (s_val rfl (v_move rfl) ?_)))))))
          refine s_do rfl (d_call Tryz.call360 rfl (rlHas_spec W0 _ x i hx (by omega))) ?_
          rintro _ B_ ⟨rfl, hB_⟩
          obtain rfl := hB_.symm
          refine s_val rfl (v_move rfl) ?_
          refine s_and rfl rfl rfl ?_ ?_
          · intro g6_4
            refine s_val rfl (v_move rfl) (s_yes rfl rfl (s_val rfl (v_move rfl) (s_yes rfl rfl ?_)))
            refine s_do rfl (d_call Tryz.call360 rfl (rlHas_spec W0 _ y i hy (by omega))) ?_
            rintro _ B_ ⟨rfl, hB_⟩
            obtain rfl := hB_.symm
            refine s_yes rfl rfl (s_val rfl (v_not rfl) (s_val rfl (v_pick_t rfl rfl) (x_nil (n_then ?_))))
            refine x_if rfl ?_ ?_
            · intro c6
              refine x_seq (x_region (s_val rfl (v_assign rfl) (x_nil (n_then (x_ret (r_block (r_then (r_then (r_block (r_then (x_done (.inl rfl) (.cons (r_tmp rfl) .nil) ?_)))))))))))
              refine ⟨_, ⟨?_, rfl⟩, inferInstance⟩
              refine congrArg Value.bool (Eq.symm ?_)
              rw [← Bool.not_eq_true, flB]
              intro q
              simp only [Bool.and_eq_true, decide_eq_true_iff, Int.toNat_natCast] at q
              exact c6 ((and_self_iff hx).1 q.2 i (by omega) g6_4)
            · intro c6
              refine x_skip (n_block (n_then (x_region (s_val rfl (v_move rfl) ?_))))
              refine s_val rfl (v_add rfl rfl (by first | exact w64 (by omega) | rfl)) ?_
              refine s_val rfl (v_assign rfl) (x_nil (n_then ?_))
              refine inv_intro (i + 1) ?_ ?_ ?_ ?_
              · refine ⟨by omega, fun c hc h => ?_⟩
                by_cases e : c = i
                · subst e
                  first
                    | exact Decidable.not_not.1 c6
                    | exact absurd h g6_4
                · exact hI c (by omega) h
              · omega
              · repeat (first | exact sub_nil | refine sub_cons rfl ?_)
              · exact inferInstance
          · intro g6_4
            refine s_no rfl rfl rfl rfl (s_no rfl rfl rfl rfl (s_no rfl rfl rfl rfl (s_val rfl (v_pick_f rfl rfl) (x_nil (n_then (x_iff rfl (x_skip (n_block (n_then (x_region (s_val rfl (v_move rfl) ?_)))))))))))
            refine s_val rfl (v_add rfl rfl (by first | exact w64 (by omega) | rfl)) ?_
            refine s_val rfl (v_assign rfl) (x_nil (n_then ?_))
            refine inv_intro (i + 1) ?_ ?_ ?_ ?_
            · refine ⟨by omega, fun c hc h => ?_⟩
              by_cases e : c = i
              · subst e
                first
                  | exact Decidable.not_not.1 c6
                  | exact absurd h g6_4
              · exact hI c (by omega) h
            · omega
            · repeat (first | exact sub_nil | refine sub_cons rfl ?_)
            · exact inferInstance
        · intro c4
          refine x_exit (e_then (e_then (e_block (n_then (x_seq (x_region (s_val rfl (v_assign rfl) (x_nil (n_then (x_ret (x_done (.inl rfl) (.cons (r_tmp rfl) .nil) ?_)))))))))))
          refine ⟨_, ⟨?_, rfl⟩, inferInstance⟩
          refine congrArg Value.bool (Eq.symm ?_)
          rw [flB, ha, hb]
          simp only [Bool.and_self, Bool.true_and, decide_eq_true_iff, Int.toNat_natCast]
          exact (and_self_iff hx).2 fun c hc => hI c (by omega)
end Go.Proofs.YtnidndllknffgaaGreat
namespace Go.Proofs.YtnidndllknffgaaGreat
open Go.RowKit
set_option linter.unusedSimpArgs false
set_option linter.unusedVariables false
section
variable {rd : Option Nat} {P : Program} {S : World → Prop} {W0 : World} {N : FSz} {Q : Exit → Act → World → Prop} {e : Env} {A B R : List HP} {ops : Array Oper} {rest : List Oper}
variable {op : Op} {ty t t' : TypeId} {pos : String} {af : Array Edge} {v u : Value} {d b off : Nat} {x y z : Operand} {l l' vs : List Value} {L : Nat} {xr : RecX}
theorem v_index {E n : Nat} {k : IntKind} {i : Int} {j : Nat} (hu : P.underlying t = some (.array n E)) (hs : ∀ w, (sizeOf E).run P w = .ok 1 w) (ha : ∀ w, (isAgg E).run P w = .ok false w) (hx : ev e x = some (.agg l.toArray)) (hy : ev e y = some (.int k i))
    (hi : i = (j : Int)) (hj : j < n) (hl : l[j]? = some v) : Val P S N e (.index t x y) v := fun a w _ _ _ _ _ hF _ => by
  subst hi
  have h1 : (0 : Int) ≤ (j : Int) ∧ (j : Int) < (n : Int) := by omega
  have hlt : j < l.length := by
    rcases Nat.lt_or_ge j l.length with q | q
    · exact q
    · rw [List.getElem?_eq_none q] at hl; cases hl
  simp only [execOp, Instr.index, hF.eval hx, hF.eval hy, asIntOf, Sem.run_bind, Sem.run_pure, Result.andThen_ok, run_und hu, h1, and_self, if_true, hs, Int.toNat_natCast, Nat.mul_one]
  rw [part_scal ha hl]; rfl
theorem x_scope {c : Code} (h : Run W0 N (c.wpR none P (Exit.noGoto Q)) e A) : Run W0 N ((Code.scope c).wpR none P Q) e A := fun a w hF hO => wpR_wide.2 (wp_scope_straight (wpR_wide.1 (h a w hF hO)))
instance pok_scope [h : POk Q] : POk (Exit.noGoto Q) := ⟨fun c a d v w k => h.ok c a d v w k⟩
theorem r_scope (h : Run W0 N (Ex Q .ret) e A) : Run W0 N (Ex (Exit.noGoto Q) .ret) e A := h
theorem r_exit {id : Nat} {Post : Value → List HP → Prop} [h : Tk recH L A xr R] (hp : ∃ B, Post (.bool false) B ∧ Ent (recH L { xr with st := .done, pe := some (.exit id) } :: R) B) : Run W0 N (Ex (RoundQ P W0 L Post) (.exit id)) e A := by
  intro a w hF hO
  obtain ⟨fn, tmps, h1, h2, hO1⟩ := (hO.tk (r := recH) (b := L)).loopRec
  obtain ⟨B, hB, hE⟩ := hp
  exact ⟨_, _, run_endRound (some (.exit id)) hO1.has.2, _, B, rfl, hB, Own.ent (Own.toRec (x := { xr with st := .done, pe := some (.exit id) }) h1 h2 (hO1.turn _)) hE⟩
theorem x_rangeFuncE {n gf : Nat} {g : Operand} {ps : Array Tmp} {asg body : Code} {lb : List Value} (id : Nat) (Go Stop : List HP → Prop) (hg : ev e g = some (.func (.func gf) #[] lb.toArray))
    (hc : ∀ args w, (callFunc gf args).run P w = .ok (.enter gf args) w)
    (hs : ∀ L D, Spec P W0 gf (.func (.yield L) #[] #[] :: lb) (recH L ⟨e, n, ps, asg, body, .ready, none, D⟩ :: pt D (.deferred (some [])) :: A)
      (fun _ B => (∃ C, B = recH L ⟨e, n, ps, asg, body, .ready, none, D⟩ :: pt D (.deferred (some [])) :: C ∧ Go C) ∨ (∃ C, B = recH L ⟨e, n, ps, asg, body, .done, some (.exit id), D⟩ :: pt D (.deferred (some [])) :: C ∧ Stop C)))
    (hgo : ∀ D C, Go C → Run W0 ⟨n, [mark D]⟩ (Ex Q .normal) e (pt D (.deferred (some [])) :: C))
    (hstop : ∀ D C, Stop C → Run W0 ⟨n, [mark D]⟩ (Ex Q (.exit id)) e (pt D (.deferred (some [])) :: C)) :
    Run W0 ⟨n, []⟩ ((Code.rangeFunc g ps asg body).wpR none P Q) e A := by
  intro a w hF hO
  refine wpIn_rangeFunc (F := FW none) (n := 0) ?_
  intro fn _
  have hO1 : Own W0 ((w.alloc (.deferred (some []))).alloc (.loop ((⟨e, n, ps, asg, body, .ready, none, w.heap.size⟩ : RecX).loop fn a.tmps))) (recH (w.heap.size + 1) ⟨e, n, ps, asg, body, .ready, none, w.heap.size⟩ :: pt w.heap.size (.deferred (some [])) :: A) := by
    refine Own.toRec (fn := fn) hF.size hF.at_ ?_
    have h1 := (hO.new (.deferred (some []))).new (.loop ((⟨e, n, ps, asg, body, .ready, none, w.heap.size⟩ : RecX).loop fn a.tmps))
    have e1 : (w.heap.push (.deferred (some []))).size = w.heap.size + 1 := by simp
    simp only [e1] at h1
    exact h1
  have hent := run_enterLoop_outer (P := P) (w := w) fn a.tmps ps asg body
  generalize hW1 : (w.alloc (.deferred (some []))).alloc (.loop ((⟨e, n, ps, asg, body, .ready, none, w.heap.size⟩ : RecX).loop fn a.tmps)) = W1 at hO1
  rw [show (w.alloc (.deferred (some []))).alloc (.loop { state := .ready, pending := none, fn, tmps := a.tmps, params := ps, assign := asg, body, defers := w.heap.size }) = W1 from hW1] at hent
  have hF' : ∀ D, Fr { a with defers := [mark D] ++ a.defers } ⟨n, [mark D]⟩ e := fun D => ⟨by simp [hF.defers], hF.size, hF.at_⟩
  refine ⟨w.heap.size + 1, [{ target := .collected w.heap.size, args := #[] }], W1, { target := .fn (.func gf) lb.toArray, args := #[.func (.yield (w.heap.size + 1)) #[] #[]] }, W1, gf,
    #[.func (.yield (w.heap.size + 1)) #[] #[]] ++ lb.toArray, W1, hent, ?_, fun _ _ => trivial, ?_, fun h => (by cases h), ?_⟩
  · have hgv := hF.eval hg
    simp only [resolve, hgv]
    simp [go_sem]
  · simp [invoke, go_sem, hc]
  · refine callsR.2 ?_
    have e2 : (#[.func (.yield (w.heap.size + 1)) #[] #[]] ++ lb.toArray : Array Value) = (.func (.yield (w.heap.size + 1)) #[] #[] :: lb).toArray := by simp
    rw [e2]
    refine Calls.mono (hs (w.heap.size + 1) w.heap.size _ hO1) ?_
    rintro _ w' ⟨v, B, rfl, hp, hO2⟩
    rcases hp with ⟨C, rfl, hC⟩ | ⟨C, rfl, hC⟩
    · obtain ⟨fn', tmps', h1, h2, hO3⟩ := hO2.loopRec
      refine ⟨none, _, run_endLoop hO3.has.2 (by simp [RecX.loop]), ?_⟩
      exact hgo _ C hC _ _ (hF' _) (hO3.turn _).drop
    · obtain ⟨fn', tmps', h1, h2, hO3⟩ := hO2.loopRec
      refine ⟨some (.exit id), _, run_endLoop hO3.has.2 (by simp [RecX.loop]), ?_⟩
      exact wpIn_exit (hstop _ C hC _ _ (hF' _) (hO3.turn _).drop)
theorem run_cap {E n c sz : Nat} {a : Option Addr} {ys : List Value} {K : Act → World → Prop} [h : Tk (osl E sz) (.slice a n c) A ys R] (k : n ≤ c ∧ c ≤ maxLen → Run W0 N K e A) : Run W0 N K e A := fun act w hF hO => by
  refine k ?_ act w hF hO
  rcases (hO.tk (r := osl E sz) (b := .slice a n c)).osl with ⟨k1, k2, _⟩ | ⟨g, n', cap, sp, k1, k2, k3, _, _, _⟩
  · cases k1; simp
  · cases k1; exact ⟨k2, k3⟩
theorem form_some {a : Option Addr} {ys : List Value} (h : Frm0 a ys) (hne : ys ≠ []) : ∃ g, a = some ⟨g, 0, none⟩ := by
  rcases h with ⟨_, q⟩ | q
  · exact absurd q hne
  · exact q
end
end Go.Proofs.YtnidndllknffgaaGreat
namespace Go.Proofs.YtnidndllknffgaaGreat
open Go.RowKit
set_option linter.unusedSimpArgs false
set_option linter.unusedVariables false
section
variable {rd : Option Nat} {P : Program} {S : World → Prop} {W0 : World} {N : FSz} {Q : Exit → Act → World → Prop} {e : Env} {A B R : List HP} {ops : Array Oper} {rest : List Oper}
variable {op : Op} {ty t t' : TypeId} {pos : String} {af : Array Edge} {v u : Value} {d b off : Nat} {x y z : Operand} {l l' vs : List Value}
variable {α : Type} {sz : Nat} {f : α → List Value} {xs : List α} {a : Option Addr}
theorem v_max {k : IntKind} {m n r : Int} {ats : Array TypeId} (hx : ev e x = some (.int k m)) (hy : ev e y = some (.int k n)) (hr : (if n > m then n else m) = r) : Val P S N e (.call { callee := .builtin .max, args := #[x, y], argTypes := ats }) (.int k r) := fun a w _ _ _ _ _ hF _ => by
  simp [execOp, resolve, invoke, builtin, hF.eval hx, hF.eval hy, Builtin.max_, Builtin.max2, hr]
def sliA (a : Option Addr) (c i sz : Nat) : Option Addr := if c = i then a else a.map (·.add (i * sz))
theorem v_sliceLHg {E n c sz : Nat} {k k' : IntKind} {i h : Nat} {j1 j2 : Int} (hu : P.underlying t = some (.slice E)) (hs : ∀ w, (sizeOf E).run P w = .ok sz w) (hx : ev e x = some (.slice a n c))
    {lo hi : Operand} (h1 : ev e lo = some (.int k j1)) (h2 : ev e hi = some (.int k' j2)) (e1 : j1 = (i : Int)) (e2 : j2 = (h : Int)) (hil : i ≤ h) (hmc : h ≤ c) :
    Val P S N e (.slice t x (some lo) (some hi) none) (.slice (sliA a c i sz) (h - i) (c - i)) := fun act w _ _ _ _ _ hF _ => by
  subst e1; subst e2
  simp [execOp, Instr.sliceAt, Instr.slice, hF.eval hx, hF.eval h1, hF.eval h2, run_und hu, Instr.sliceBounds, run_bound hmc, run_bound hil, hs, sliA]
theorem SlA.sub (h : SlA S a sz f xs) {c i k : Nat} (hk : i + k ≤ xs.length) (hc : xs.length ≤ c) : SlA S (sliA a c i sz) sz f ((xs.drop i).take k) := fun j x hj => by
  have hjk : j < k := by
    rcases Nat.lt_or_ge j k with q | q
    · exact q
    · rw [List.getElem?_eq_none (by rw [List.length_take]; omega)] at hj; cases hj
  rw [List.getElem?_take_of_lt hjk, List.getElem?_drop] at hj
  obtain ⟨b, off, rfl, hcl⟩ := h (i + j) x hj
  refine ⟨b, off + i * sz, ?_, ?_⟩
  · rw [sliA, if_neg (by omega)]; simp [add_none]
  · rw [Nat.add_assoc, ← Nat.add_mul]; exact hcl
theorem SlA.take (h : SlA S a sz f xs) (k : Nat) : SlA S a sz f (xs.take k) := fun j x hj => by
  have hjk : j < k := by
    rcases Nat.lt_or_ge j k with q | q
    · exact q
    · rw [List.getElem?_eq_none (by rw [List.length_take]; omega)] at hj; cases hj
  rw [List.getElem?_take_of_lt hjk] at hj
  exact h j x hj
theorem SlA.src (h : SlA S a sz f xs) (hf : ∀ x, (f x).length = sz) (ha : a = none → True) : (xs = []) ∨ ∃ b off, a = some ⟨b, off, none⟩ ∧ Cells S b off (xs.flatMap f) := by
  by_cases h0 : xs = []
  · exact .inl h0
  · exact .inr (h.all h0 hf)
theorem d_appendS {E n m c cx by_ : Nat} {ay : Option Addr} {info : TypeInfo} {z : Value} {an : Option Addr} {xs news : List Value} (hu : P.underlying t = some (.slice E))
    (hi : P.info? E = some info) (hz : info.zero = some z) (hsz : info.size = sz) (hby : info.bytes = by_) (hz1 : z.cells.size = sz) (hsz0 : 0 < sz)
    (hx : ev e x = some (.slice an n c)) (hy : ev e y = some (.slice ay m cx)) [h : Tk (osl E sz) (.slice an n c) A xs R]
    (hsrc : m = 0 ∨ ∃ bx ox, ay = some ⟨bx, ox, none⟩ ∧ Cells (OwnP W0 A) bx ox news) (hnl : news.length = m * sz) (h1 : allOne news = true) (h63 : n + m ≤ maxLen) (hbig : (n + m) * by_ ≤ 140737488355328) :
    Does P W0 N e A (.call { callee := .builtin .append, args := #[x, y], argTypes := #[t, t] }) (fun v B => ∃ a' c', v = .slice a' (n + m) c' ∧ B = osl E sz v (xs ++ news) :: R) := by
  rcases hsrc with rfl | ⟨bx, ox, rfl, hc⟩
  · have h0 : news = [] := List.eq_nil_of_length_eq_zero (by simpa using hnl)
    subst h0
    intro act w dst ty pos af g K Q hF hO k
    have hO' := hO.tk (r := osl E sz) (b := .slice an n c)
    have hcap : n ≤ c := by
      rcases hO'.osl with ⟨k1, _, _⟩ | ⟨_, _, _, _, k1, k2, _⟩
      · cases k1; exact Nat.le_refl _
      · cases k1; exact k2
    have hrun : (Builtin.append_ #[t, t] ty #[.slice an n c, .slice ay 0 cx]).run P w = .ok (.slice an n c) w := by
      cases an <;> cases ay <;> simp [Builtin.append_, run_und hu, sizeOf, typeInfo, hi, Builtin.lenOf, Builtin.firstCells, hcap, loadCells, loadCellsFrom, storeCells]
    unfold Oper.wp
    have hexec : (execOp act.eval { dst := dst, op := .call { callee := .builtin .append, args := #[x, y], argTypes := #[t, t] }, type := ty, pos := pos, after := af, guard := g }).run P w = .ok (.value (.slice an n c)) w := by
      simp only [execOp, resolve, invoke, builtin, Sem.run_bind, Sem.run_pure, Result.andThen_ok, List.map_toArray, List.map_cons, List.map_nil, hF.eval hx, hF.eval hy, hrun]
    rw [hexec]
    exact k _ w _ ⟨an, c, rfl, by rw [List.append_nil]⟩ hO'
  · exact d_append hu hi hz hsz hby hz1 hsz0 hx hy hc hnl h1 h63 hbig
end
end Go.Proofs.YtnidndllknffgaaGreat
namespace Go.Proofs.YtnidndllknffgaaGreat
open Go.RowKit
set_option linter.unusedSimpArgs false
set_option linter.unusedVariables false
section
variable {P : Program} {S : World → Prop} {W0 : World} {N : FSz} {e : Env} {A R : List HP} {t ty : TypeId} {b off : Nat} {x : Operand} {l : List Value}
theorem v_sliceLg {E n c sz : Nat} {k : IntKind} {i : Nat} {j1 : Int} {a a' : Option Addr} (hu : P.underlying t = some (.slice E)) (hs : ∀ w, (sizeOf E).run P w = .ok sz w) (hx : ev e x = some (.slice a n c))
    {lo : Operand} (h1 : ev e lo = some (.int k j1)) (e1 : j1 = (i : Int)) (hil : i ≤ n) (ha : sliA a c i sz = a') :
    Val P S N e (.slice t x (some lo) none none) (.slice a' (n - i) (c - i)) := fun act w _ _ _ _ _ hF _ => by
  subst e1; subst ha
  simp [execOp, Instr.sliceAt, Instr.slice, hF.eval hx, hF.eval h1, run_und hu, Instr.sliceBounds, run_bound hil, hs, sliA]
section
variable {rd : Option Nat} {Q : Exit → Act → World → Prop} {ops : Array Oper} {rest : List Oper} {pos : String} {af : Array Edge} {d : Nat} {y : Operand}
end
end
end Go.Proofs.YtnidndllknffgaaGreat
namespace Go.Proofs.YtnidndllknffgaaGreat
open Go.RowKit
set_option linter.unusedSimpArgs false
set_option linter.unusedVariables false
section
variable {P : Program} {W0 : World} {N : FSz} {e : Env} {A R R1 R2 R3 R4 R5 R6 R7 : List HP} {vs us cs : List Value}
variable {K1 K2 K3 K4 K5 K6 K7 K8 X1 X2 X3 X4 X5 X6 X7 X8 : Type} {r1 : K1 → X1 → HP} {b1 : K1} {x1 : X1} {r2 : K2 → X2 → HP} {b2 : K2} {x2 : X2} {r3 : K3 → X3 → HP} {b3 : K3} {x3 : X3} {r4 : K4 → X4 → HP} {b4 : K4} {x4 : X4} {r5 : K5 → X5 → HP} {b5 : K5} {x5 : X5} {r6 : K6 → X6 → HP} {b6 : K6} {x6 : X6} {r7 : K7 → X7 → HP} {b7 : K7} {x7 : X7} {r8 : K8 → X8 → HP} {b8 : K8} {x8 : X8}
variable {f : FuncId} {xs : Array Operand} {ats : Array TypeId} {Post : Value → List HP → Prop}
end
end Go.Proofs.YtnidndllknffgaaGreat
namespace Go.Proofs.YtnidndllknffgaaGreat
open Go.RowKit
set_option linter.unusedSimpArgs false
set_option linter.unusedVariables false
set_option maxRecDepth 20000
def sV (s : ByteArray) : Value := .string s
def strs (l : List ByteArray) : List Value := l.map sV
structure Prt where
  lab : Int
  gu : Int
  l : List ByteArray
instance : Inhabited Prt := ⟨⟨0, 0, []⟩⟩
def prV (p : Value × Prt) : List Value := [.int .i64 p.2.lab, .int .i64 p.2.gu, p.1]
def inS (p : Value × Prt) : HP := osl 9 1 p.1 (strs p.2.l)
def portsH (p : Nat) (ps : List Prt) : HP := chk (fun C => ∃ a c, ∃ vs : List Value, vs.length = ps.length ∧ C = [pt p (cob [.slice a ps.length c, .bool true] 267), osl 270 3 (.slice a ps.length c) ((vs.zip ps).flatMap prV), kH 2 (grp ((vs.zip ps).map inS))])
section
variable {P : Program} {W0 : World} {N : FSz} {K : Act → World → Prop} {e : Env} {A B R R1 R2 R3 R4 : List HP} {p g n : Nat} {ps : List Prt} {f : FuncId} {args : List Value} {Post : Value → List HP → Prop}
theorem perm_eraseP {α : Type} : ∀ (l : List α) (i : Nat) (h : i < l.length), l.Perm (l[i] :: l.eraseIdx i)
  | x :: l, 0, h => by simp
  | x :: l, i + 1, h => by
    simp only [List.getElem_cons_succ, List.eraseIdx_cons_succ]
    exact ((perm_eraseP l i (by simpa using h)).cons x).trans (List.Perm.swap _ _ _)
theorem perm_setP {α : Type} : ∀ (l : List α) (i : Nat) (x : α) (h : i < l.length), (x :: l.eraseIdx i).Perm (l.set i x)
  | y :: l, 0, x, h => by simp
  | y :: l, i + 1, x, h => by
    simp only [List.set_cons_succ, List.eraseIdx_cons_succ]
    exact (List.Perm.swap _ _ _).trans ((perm_setP l i x (by simpa using h)).cons y)
theorem ent_pick {L : List HP} {i : Nat} (h : i < L.length) : Ent (kH 2 (grp L) :: R) (L[i] :: kH 3 (grp (L.eraseIdx i)) :: R) := by
  refine (ent_open (A := L) (R := R)).trans ?_
  refine (Ent.ofPerm ((perm_eraseP L i h).append_right R)).trans ?_
  exact Ent.cons ent_shut
theorem ent_unpick {L : List HP} {i : Nat} {x : HP} (h : i < L.length) : Ent (x :: kH 3 (grp (L.eraseIdx i)) :: R) (kH 2 (grp (L.set i x)) :: R) := by
  refine (Ent.cons ent_open).trans ?_
  exact (Ent.ofPerm ((perm_setP L i x h).append_right R)).trans ent_shut
theorem ent_ports {a : Option Addr} {c : Nat} {vs : List Value} [h1 : Tk pt p A (cob [.slice a n c, .bool true] 267) R1] [h2 : Tk (osl 270 3) (.slice a n c) R1 ((vs.zip ps).flatMap prV) R2] [h3 : Tk kH 2 R2 (grp ((vs.zip ps).map inS)) R3] (hv : vs.length = ps.length) (hn : n = ps.length) [k : Ent R3 B] : Ent A (portsH p ps :: B) := by
  subst hn
  have e1 : A.Perm ([pt p (cob [.slice a ps.length c, .bool true] 267), osl 270 3 (.slice a ps.length c) ((vs.zip ps).flatMap prV), kH 2 (grp ((vs.zip ps).map inS))] ++ R3) := h1.perm.trans ((h2.perm.trans (h3.perm.cons _)).cons _)
  exact (Ent.ofPerm e1).trans ((ent_chk (R := R3) ⟨a, c, vs, hv, rfl⟩).trans (Ent.cons k))
end
theorem vs_self {vs : List Value} {i : Nat} {v : Value} (h : vs[i]? = some v) : vs.set i v = vs := by
  have hi : i < vs.length := by
    rcases Nat.lt_or_ge i vs.length with k | k
    · exact k
    · rw [List.getElem?_eq_none k] at h; cases h
  have : vs[i] = v := by simpa [hi] using h
  rw [← this]; exact List.set_getElem_self _
end Go.Proofs.YtnidndllknffgaaGreat
namespace Go.Proofs.YtnidndllknffgaaGreat
open Go.RowKit
set_option linter.unusedSimpArgs false
set_option linter.unusedVariables false
set_option maxRecDepth 20000
@[reducible] def stV (x : Int × Bool) : List Value := [.int .i64 x.1, .bool x.2]
theorem stV_len (x : Int × Bool) : (stV x).length = 2 := rfl
@[reducible] def nV1 (n : Nat) : List Value := [.int .i64 (n : Int)]
theorem nV1_len (n : Nat) : (nV1 n).length = 1 := rfl
def lfS (p : Value × List Nat) : HP := osl 3 1 p.1 (p.2.flatMap nV1)
@[reducible] def poCs (ps : Nat) (sv : Value) (vs : List Value) : List Value := .pointer (some ⟨ps, 0, none⟩) :: sv :: vs
theorem poCs_set (ps w : Nat) (sv v : Value) (vs : List Value) : (poCs ps sv vs).set (2 + w * 1) v = poCs ps sv (vs.set w v) := by
  rw [show 2 + w * 1 = w + 1 + 1 by omega]; rfl
abbrev lfH (w : Nat) : Nat → List Nat × List Value → HP := rwH 420 3 1 nV1 (2 + w * 1)
def poH (pb : Nat) (x : Nat × Po) : HP := chk (fun C => ∃ a c vs Ls, vs.length = 16 ∧ LsOk x.2 Ls ∧ C = [pt pb (cob (poCs x.1 (.slice a x.2.length c) vs) 420), osl 422 2 (.slice a x.2.length c) (x.2.flatMap stV), kH 2 (grp ((vs.zip Ls).map lfS))])
theorem ent_unchk {F : List HP → Prop} {R B : List HP} (h : ∀ C, F C → Ent (C ++ R) B) : Ent (chk F :: R) B := ⟨fun l hl => by
  obtain ⟨l1, l2, rfl, ⟨C, hC, hs⟩, h2⟩ := hl
  exact (h C hC).out _ (Sat.append.2 ⟨l1, l2, rfl, hs, h2⟩)⟩
section
variable {P : Program} {W0 : World} {N : FSz} {K : Act → World → Prop} {e : Env} {A B R R1 R2 R3 : List HP} {pb ps w n : Nat} {po : Po} {f : FuncId} {args : List Value} {Post : Value → List HP → Prop}
theorem run_po [hk : Tk poH pb A (ps, po) R] (h : ∀ a c vs Ls, vs.length = 16 → LsOk po Ls → Run W0 N K e (pt pb (cob (poCs ps (.slice a po.length c) vs) 420) :: osl 422 2 (.slice a po.length c) (po.flatMap stV) :: kH 2 (grp ((vs.zip Ls).map lfS)) :: R)) : Run W0 N K e A :=
  run_tk (r := poH) (b := pb) (run_chk fun C hC => by obtain ⟨a, c, vs, Ls, h1, h2, rfl⟩ := hC; exact h a c vs Ls h1 h2)
theorem spec_po (h : ∀ a c vs Ls, vs.length = 16 → LsOk po Ls → Spec P W0 f args (pt pb (cob (poCs ps (.slice a po.length c) vs) 420) :: osl 422 2 (.slice a po.length c) (po.flatMap stV) :: kH 2 (grp ((vs.zip Ls).map lfS)) :: R) Post) : Spec P W0 f args (poH pb (ps, po) :: R) Post :=
  spec_chk fun C hC => by obtain ⟨a, c, vs, Ls, h1, h2, rfl⟩ := hC; exact h a c vs Ls h1 h2
theorem ent_po {a : Option Addr} {c : Nat} {vs xs : List Value} {Ls : List (List Nat)} {sv : Value} [h1 : Tk pt pb A (cob (poCs ps sv vs) 420) R1] [h2 : Tk (osl 422 2) sv R1 xs R2] [h3 : Tk kH 2 R2 (grp ((vs.zip Ls).map lfS)) R3]
    (hs : sv = .slice a n c) (hv : vs.length = 16) (hL : LsOk po Ls) (hn : n = po.length) (hx : xs = po.flatMap stV) [k : Ent R3 B] : Ent A (poH pb (ps, po) :: B) := by
  subst hs; subst hn; subst hx
  exact (Ent.ofPerm (h1.perm.trans ((h2.perm.trans (h3.perm.cons _)).cons _))).trans ((Ent.cons (Ent.cons (Ent.cons k))).trans (ent_chk (R := B) (C := [_, _, _]) ⟨a, c, vs, Ls, hv, hL, rfl⟩))
theorem ent_rowOut {sv : Value} {vs : List Value} {Ls : List (List Nat)} (hw : w < 16) (hv : vs.length = 16) (hL : Ls.length = 16) :
    Ent (pt pb (cob (poCs ps sv vs) 420) :: kH 2 (grp ((vs.zip Ls).map lfS)) :: R) (lfH w pb (Ls.getD w [], poCs ps sv vs) :: kH 3 (grp (((vs.zip Ls).map lfS).eraseIdx w)) :: R) := by
  have hlen : ((vs.zip Ls).map lfS).length = 16 := by simp [hv, hL]
  have hg : ((vs.zip Ls).map lfS)[w]'(by omega) = osl 3 1 (vs.getD w undef) ((Ls.getD w []).flatMap nV1) := by
    simp [lfS, List.getD, show w < vs.length by omega, show w < Ls.length by omega]
  have e2 := ent_pick (L := (vs.zip Ls).map lfS) (R := R) (i := w) (by omega)
  rw [hg] at e2
  refine (Ent.cons e2).trans ?_
  generalize hvw : vs.getD w undef = v
  have hvs : vs[w]? = some v := by rw [← hvw]; simp [List.getD, show w < vs.length by omega]
  refine ⟨fun l hl => ?_⟩
  obtain ⟨l1, l2, rfl, h1, l3, l4, rfl, h3, h4⟩ := hl
  have key : ∀ a c, v = .slice a (Ls.getD w []).length c → ∃ l' r, Sat (lfH w pb (Ls.getD w [], poCs ps sv vs) :: kH 3 (grp (((vs.zip Ls).map lfS).eraseIdx w)) :: R) l' ∧ (l1 ++ (l3 ++ l4)).Perm (l' ++ r) := fun a c hva => by
    have hcs : (poCs ps sv vs).set (2 + w * 1) (.slice a (Ls.getD w []).length c) = poCs ps sv vs := by
      rw [← hva, poCs_set, vs_self hvs]
    refine ⟨(l1 ++ l3) ++ l4, [], ⟨l1 ++ l3, l4, rfl, ⟨_, ⟨by simp [poCs, hv]; omega, a, c, rfl⟩, ?_⟩, h4⟩, by simp⟩
    rw [hcs, ← hva]
    exact ⟨l1, l3, rfl, h1, l3, [], by simp, h3, rfl⟩
  rcases id h3 with ⟨k1, k2, _⟩ | ⟨g, n, cap, sp, k1, _, _, k4, _, _⟩
  · have hl0 : (Ls.getD w []).length = 0 := by
      have := congrArg List.length k2
      rw [flat_len nV1_len] at this; simpa using this
    exact key none 0 (by rw [k1, hl0])
  · have hl0 : (Ls.getD w []).length = n := by rw [flat_len nV1_len] at k4; omega
    exact key (some ⟨g, 0, none⟩) cap (by rw [k1, hl0])
theorem ent_rowIn {a : Option Addr} {c : Nat} {sv : Value} {vs : List Value} {Ls : List (List Nat)} {l : List Nat} {po' : Po} (hw : w < 16) (hv : vs.length = 16) (hs : sv = .slice a n c) (hn : n = po'.length) (hL : Ls.length = 16) (hk : LsOk po' (Ls.set w l)) :
    Ent (lfH w pb (l, poCs ps sv vs) :: osl 422 2 sv (po'.flatMap stV) :: kH 3 (grp (((vs.zip Ls).map lfS).eraseIdx w)) :: R) (poH pb (ps, po') :: R) := by
  refine ent_unchk fun C hC => ?_
  obtain ⟨ho, a2, c2, rfl⟩ := hC
  have hcs : (poCs ps sv vs).set (2 + w * 1) (.slice a2 l.length c2) = poCs ps sv (vs.set w (.slice a2 l.length c2)) := poCs_set ..
  dsimp only
  rw [hcs]
  have hlen : ((vs.zip Ls).map lfS).length = 16 := by simp [hv, hL]
  have hset : ((vs.set w (.slice a2 l.length c2)).zip (Ls.set w l)).map lfS = ((vs.zip Ls).map lfS).set w (lfS (.slice a2 l.length c2, l)) := by
    apply List.ext_getElem
    · simp
    · intro j h1 h2
      by_cases e : j = w
      · subst e; simp
      · have e' : ¬ w = j := fun h => e h.symm
        simp [List.getElem_set, e']
  have e2 : Ent (lfS (.slice a2 l.length c2, l) :: kH 3 (grp (((vs.zip Ls).map lfS).eraseIdx w)) :: R) (kH 2 (grp (((vs.set w (.slice a2 l.length c2)).zip (Ls.set w l)).map lfS)) :: R) := by
    rw [hset]; exact ent_unpick (by omega)
  refine (Ent.ofPerm ((List.Perm.swap _ _ _).cons _)).trans ?_
  refine (Ent.cons (Ent.cons e2)).trans ?_
  exact ent_po (vs := vs.set w (.slice a2 l.length c2)) hs (by simpa using hv) hk hn rfl
end
theorem st_get (po : Po) (sp : List Value) (i j : Nat) (hi : i < po.length) (hj : j < 2) : (po.flatMap stV ++ sp)[i * 2 + j]? = (stV (poA po i))[j]? := by
  rw [flat_get stV_len po i j sp hi hj]; simp [poA, List.getD, hi]
theorem st_set0 (po : Po) (sp : List Value) (i : Nat) (v : Int) (hi : i < po.length) : (po.flatMap stV ++ sp).set (i * 2 + 0) (.int .i64 v) = (po.set i (v, (poA po i).2)).flatMap stV ++ sp :=
  flat_set1 stV_len po i 0 _ _ sp hi (by decide) (by simp [poA, List.getD, hi, stV])
theorem st_set1 (po : Po) (sp : List Value) (i : Nat) (v : Bool) (hi : i < po.length) : (po.flatMap stV ++ sp).set (i * 2 + 1) (.bool v) = (po.set i ((poA po i).1, v)).flatMap stV ++ sp :=
  flat_set1 stV_len po i 1 _ _ sp hi (by decide) (by simp [poA, List.getD, hi, stV])
theorem st_len (po : Po) : (po.flatMap stV).length = po.length * 2 := flat_len stV_len po
end Go.Proofs.YtnidndllknffgaaGreat
namespace Go.Proofs.YtnidndllknffgaaGreat
open Go.RowKit
set_option linter.unusedSimpArgs false
set_option linter.unusedVariables false
set_option maxRecDepth 20000
abbrev lpP (pb w : Nat) : Value := .pointer (some ⟨pb, 2 + w * 1, none⟩)
theorem nV_get {its : List Nat} {sp : List Value} {i : Nat} (hi : i < its.length) : (its.flatMap nV1 ++ sp)[i * 1]? = some (.int .i64 ((its.getD i default : Nat) : Int)) := by
  have := flat_get nV1_len its i 0 sp hi (by decide)
  rw [Nat.add_zero] at this
  rw [this]; simp [nV1, List.getD, hi]
theorem nV_set {its : List Nat} {sp : List Value} {i x : Nat} (hi : i < its.length) : (its.flatMap nV1 ++ sp).set (i * 1) (.int .i64 (x : Int)) = (its.set i x).flatMap nV1 ++ sp := by
  have := flat_set1 nV1_len its i 0 (.int .i64 (x : Int)) x sp hi (by decide) (by simp [nV1])
  rwa [Nat.add_zero] at this
theorem nV_bd {its : List Nat} {sp : List Value} {i : Nat} (hi : i < its.length) : i * 1 + 1 ≤ (its.flatMap nV1 ++ sp).length := flat_bd nV1_len its sp i hi
theorem lfLen_spec (W0 : World) (R : List HP) (pb w : Nat) (its : List Nat) (cs : List Value) :
    Spec Tryz.prog W0 299 [lpP pb w] (lfH w pb (its, cs) :: R) (fun v B => v = .int .i64 (its.length : Nat) ∧ B = lfH w pb (its, cs) :: R) := by
  refine spec_rw fun a c ho => ?_
  refine spec_body Tryz.func299 Tryz.ntmps299 rfl rfl ?_
  refine x_seq (x_region (s_val rfl (v_assign rfl) (x_nil (n_then (x_seq (x_region (s_val rfl (v_move rfl) (s_val rfl (v_nilCheck rfl) ?_))))))))
  refine s_val rfl (v_fieldAddr rfl Tryz.underlying417 rfl Tryz.sizeOf37 rfl (by first | exact Nat.zero_add _ | rfl)) ?_
  refine s_val rfl (v_load Tryz.isAgg37 rfl (cell_own (set_at ho))) ?_
  refine s_val rfl (v_len_slice Tryz.underlying37 rfl) (s_val rfl (v_assign rfl) (x_nil (n_then (x_ret (x_done (.inl rfl) (.cons (r_tmp rfl) .nil) ?_)))))
  exact ⟨_, ⟨rfl, rfl⟩, ent_rw rfl rfl ho rfl⟩
theorem lfLess_spec (W0 : World) (R : List HP) (pb w : Nat) (its : List Nat) (cs : List Value) (i k : Nat) (hi : i < its.length) (hk : k < its.length) :
    Spec Tryz.prog W0 495 [lpP pb w, .int .i64 i, .int .i64 k] (lfH w pb (its, cs) :: R) (fun v B => v = .bool (decide (Hp.us its i < Hp.us its k)) ∧ B = lfH w pb (its, cs) :: R) := by
  refine spec_rwN nV1_len (by intro e; subst e; simp at hi) (by decide) fun g c sp ho h1 h2 h3 => ?_
  refine spec_body Tryz.func495 Tryz.ntmps495 rfl rfl ?_
  refine x_seq (x_region (s_val rfl (v_assign rfl) (x_nil (n_then (x_seq ?_)))))
  refine x_draw [(pb, 0, _), (g, 0, _)] 16 mixed rfl (sc_own (sc_own sc_end)) (fun hS => ?_)
  refine d_take 0 rfl rfl (by kernel_rfl) (by kernel_rfl) (by kernel_rfl) rfl hS (v_move rfl) ?_
  refine d_take 1 rfl rfl (by kernel_rfl) (by kernel_rfl) (by kernel_rfl) rfl hS (v_nilCheck rfl) ?_
  refine d_take 2 rfl rfl (by kernel_rfl) (by kernel_rfl) (by kernel_rfl) rfl hS (v_fieldAddr rfl Tryz.underlying417 rfl Tryz.sizeOf37 rfl (by first | exact Nat.zero_add _ | rfl)) ?_
  refine d_take 3 rfl rfl (by kernel_rfl) (by kernel_rfl) (by kernel_rfl) rfl hS (v_load Tryz.isAgg37 rfl (cell_sc0 (k := 0) rfl (set_at ho))) ?_
  refine d_take 4 rfl rfl (by kernel_rfl) (by kernel_rfl) (by kernel_rfl) rfl hS (v_move rfl) ?_
  refine d_take 5 rfl rfl (by kernel_rfl) (by kernel_rfl) (by kernel_rfl) rfl hS (v_idx Tryz.underlying37 Tryz.sizeOf3 rfl rfl rfl hi (by first | exact Nat.zero_add _ | rfl)) ?_
  refine d_take 6 rfl rfl (by kernel_rfl) (by kernel_rfl) (by kernel_rfl) rfl hS (v_load Tryz.isAgg3 rfl (cell_sc0 (k := 1) rfl (nV_get hi))) ?_
  refine d_take 7 rfl rfl (by kernel_rfl) (by kernel_rfl) (by kernel_rfl) rfl hS (v_move rfl) ?_
  refine d_take 8 rfl rfl (by kernel_rfl) (by kernel_rfl) (by kernel_rfl) rfl hS (v_nilCheck rfl) ?_
  refine d_take 9 rfl rfl (by kernel_rfl) (by kernel_rfl) (by kernel_rfl) rfl hS (v_fieldAddr rfl Tryz.underlying417 rfl Tryz.sizeOf37 rfl (by first | exact Nat.zero_add _ | rfl)) ?_
  refine d_take 10 rfl rfl (by kernel_rfl) (by kernel_rfl) (by kernel_rfl) rfl hS (v_load Tryz.isAgg37 rfl (cell_sc0 (k := 0) rfl (set_at ho))) ?_
  refine d_take 11 rfl rfl (by kernel_rfl) (by kernel_rfl) (by kernel_rfl) rfl hS (v_move rfl) ?_
  refine d_take 12 rfl rfl (by kernel_rfl) (by kernel_rfl) (by kernel_rfl) rfl hS (v_idx Tryz.underlying37 Tryz.sizeOf3 rfl rfl rfl hk (by first | exact Nat.zero_add _ | rfl)) ?_
  refine d_take 13 rfl rfl (by kernel_rfl) (by kernel_rfl) (by kernel_rfl) rfl hS (v_load Tryz.isAgg3 rfl (cell_sc0 (k := 1) rfl (nV_get hk))) ?_
  refine d_take 14 rfl rfl (by kernel_rfl) (by kernel_rfl) (by kernel_rfl) rfl hS (v_lss rfl rfl) ?_
  refine d_take 15 rfl rfl (by kernel_rfl) (by kernel_rfl) (by kernel_rfl) rfl hS (v_assign rfl) ?_
  refine d_done (by kernel_rfl) ?_; clear hS
  refine n_then (x_ret (x_done (.inl rfl) (.cons (r_tmp rfl) .nil) ?_))
  exact ⟨_, ⟨rfl, rfl⟩, ent_rwN nV1_len rfl rfl ho rfl h1 h2 h3⟩
theorem lfSwap_spec (W0 : World) (R : List HP) (pb w : Nat) (its : List Nat) (cs : List Value) (i k : Nat) (hi : i < its.length) (hk : k < its.length) :
    Spec Tryz.prog W0 498 [lpP pb w, .int .i64 i, .int .i64 k] (lfH w pb (its, cs) :: R) (fun v B => v = .tuple #[] ∧ B = lfH w pb (Hp.swapL its i k, cs) :: R) := by
  refine spec_rwN nV1_len (by intro e; subst e; simp at hi) (by decide) fun g c sp ho h1 h2 h3 => ?_
  refine spec_body Tryz.func498 Tryz.ntmps498 rfl rfl ?_
  refine x_draw [(pb, 0, _)] 28 mixed rfl (sc_own sc_end) (fun hS => ?_)
  refine d_take 0 rfl rfl (by kernel_rfl) (by kernel_rfl) (by kernel_rfl) rfl hS (v_move rfl) ?_
  refine d_take 1 rfl rfl (by kernel_rfl) (by kernel_rfl) (by kernel_rfl) rfl hS (v_nilCheck rfl) ?_
  refine d_take 2 rfl rfl (by kernel_rfl) (by kernel_rfl) (by kernel_rfl) rfl hS (v_fieldAddr rfl Tryz.underlying417 rfl Tryz.sizeOf37 rfl (by first | exact Nat.zero_add _ | rfl)) ?_
  refine d_take 3 rfl rfl (by kernel_rfl) (by kernel_rfl) (by kernel_rfl) rfl hS (v_load Tryz.isAgg37 rfl (cell_sc0 (k := 0) rfl (set_at ho))) ?_
  refine d_take 4 rfl rfl (by kernel_rfl) (by kernel_rfl) (by kernel_rfl) rfl hS (v_move rfl) ?_
  refine d_take 5 rfl rfl (by kernel_rfl) (by kernel_rfl) (by kernel_rfl) rfl hS (v_move rfl) ?_
  refine d_take 6 rfl rfl (by kernel_rfl) (by kernel_rfl) (by kernel_rfl) rfl hS (v_nilCheck rfl) ?_
  refine d_take 7 rfl rfl (by kernel_rfl) (by kernel_rfl) (by kernel_rfl) rfl hS (v_fieldAddr rfl Tryz.underlying417 rfl Tryz.sizeOf37 rfl (by first | exact Nat.zero_add _ | rfl)) ?_
  refine d_take 8 rfl rfl (by kernel_rfl) (by kernel_rfl) (by kernel_rfl) rfl hS (v_load Tryz.isAgg37 rfl (cell_sc0 (k := 0) rfl (set_at ho))) ?_
  refine d_take 9 rfl rfl (by kernel_rfl) (by kernel_rfl) (by kernel_rfl) rfl hS (v_move rfl) ?_
  refine d_take 10 rfl rfl (by kernel_rfl) (by kernel_rfl) (by kernel_rfl) rfl hS (v_move rfl) ?_
  refine d_take 11 rfl rfl (by kernel_rfl) (by kernel_rfl) (by kernel_rfl) rfl hS (v_nilCheck rfl) ?_
  refine d_take 12 rfl rfl (by kernel_rfl) (by kernel_rfl) (by kernel_rfl) rfl hS (v_fieldAddr rfl Tryz.underlying417 rfl Tryz.sizeOf37 rfl (by first | exact Nat.zero_add _ | rfl)) ?_
  refine d_take 13 rfl rfl (by kernel_rfl) (by kernel_rfl) (by kernel_rfl) rfl hS (v_load Tryz.isAgg37 rfl (cell_sc0 (k := 0) rfl (set_at ho))) ?_
  refine d_take 14 rfl rfl (by kernel_rfl) (by kernel_rfl) (by kernel_rfl) rfl hS (v_move rfl) ?_
  refine d_take 15 rfl rfl (by kernel_rfl) (by kernel_rfl) (by kernel_rfl) rfl hS (v_idx Tryz.underlying37 Tryz.sizeOf3 rfl rfl rfl hk (by first | exact Nat.zero_add _ | rfl)) ?_
  refine d_take 17 rfl rfl (by kernel_rfl) (by kernel_rfl) (by kernel_rfl) rfl hS (v_move rfl) ?_
  refine d_take 18 rfl rfl (by kernel_rfl) (by kernel_rfl) (by kernel_rfl) rfl hS (v_nilCheck rfl) ?_
  refine d_take 19 rfl rfl (by kernel_rfl) (by kernel_rfl) (by kernel_rfl) rfl hS (v_fieldAddr rfl Tryz.underlying417 rfl Tryz.sizeOf37 rfl (by first | exact Nat.zero_add _ | rfl)) ?_
  refine d_take 20 rfl rfl (by kernel_rfl) (by kernel_rfl) (by kernel_rfl) rfl hS (v_load Tryz.isAgg37 rfl (cell_sc0 (k := 0) rfl (set_at ho))) ?_
  refine d_take 21 rfl rfl (by kernel_rfl) (by kernel_rfl) (by kernel_rfl) rfl hS (v_move rfl) ?_
  refine d_take 22 rfl rfl (by kernel_rfl) (by kernel_rfl) (by kernel_rfl) rfl hS (v_idx Tryz.underlying37 Tryz.sizeOf3 rfl rfl rfl hi (by first | exact Nat.zero_add _ | rfl)) ?_
  refine d_all (is := [16, 23]) (by kernel_rfl) rfl ⟨?_, ?_, trivial⟩
  · skip
    refine dx_one rfl rfl (d_val (v_load Tryz.isAgg3 rfl (cell_own (nV_get hk)))) rfl ?_; clear hS
    rintro _ _ ⟨rfl, rfl⟩
    refine ⟨(sc_own sc_end), fun hS => ?_⟩
    refine d_one 23 (by kernel_rfl) rfl rfl (d_val (v_load Tryz.isAgg3 rfl (cell_own (nV_get hi)))) rfl ?_; clear hS
    rintro _ _ ⟨rfl, rfl⟩
    refine ⟨(sc_own sc_end), fun hS => ?_⟩
    refine d_take 24 rfl rfl (by kernel_rfl) (by kernel_rfl) (by kernel_rfl) rfl hS (v_idx Tryz.underlying37 Tryz.sizeOf3 rfl rfl rfl hi (by first | exact Nat.zero_add _ | rfl)) ?_
    refine d_one 25 (by kernel_rfl) rfl rfl (d_store Tryz.sizeOf3 rfl rfl rfl (nV_bd hi) (nV_set hi)) rfl ?_; clear hS
    rintro _ _ rfl
    refine ⟨(sc_own sc_end), fun hS => ?_⟩
    refine d_take 26 rfl rfl (by kernel_rfl) (by kernel_rfl) (by kernel_rfl) rfl hS (v_idx Tryz.underlying37 Tryz.sizeOf3 rfl rfl rfl hk (by first | exact Nat.zero_add _ | rfl)) ?_
    refine d_one 27 (by kernel_rfl) rfl rfl (d_store Tryz.sizeOf3 rfl rfl rfl (nV_bd (by simpa using hk)) (nV_set (by simpa using hk))) rfl ?_; clear hS
    rintro _ _ rfl
    refine ⟨(sc_own sc_end), fun hS => ?_⟩
    refine d_done (by kernel_rfl) ?_; clear hS
    refine x_done (.inr rfl) .nil ?_
    exact ⟨_, ⟨rfl, rfl⟩, ent_rwN nV1_len rfl rfl ho (by simp [Hp.swapL]) (by simpa [Hp.swapL] using h1) h2 (by rw [List.length_append, flat_len nV1_len] at h3 ⊢; simpa [Hp.swapL] using h3)⟩
  · skip
    refine dx_one rfl rfl (d_val (v_load Tryz.isAgg3 rfl (cell_own (nV_get hi)))) rfl ?_; clear hS
    rintro _ _ ⟨rfl, rfl⟩
    refine ⟨(sc_own sc_end), fun hS => ?_⟩
    refine d_one 16 (by kernel_rfl) rfl rfl (d_val (v_load Tryz.isAgg3 rfl (cell_own (nV_get hk)))) rfl ?_; clear hS
    rintro _ _ ⟨rfl, rfl⟩
    refine ⟨(sc_own sc_end), fun hS => ?_⟩
    refine d_take 24 rfl rfl (by kernel_rfl) (by kernel_rfl) (by kernel_rfl) rfl hS (v_idx Tryz.underlying37 Tryz.sizeOf3 rfl rfl rfl hi (by first | exact Nat.zero_add _ | rfl)) ?_
    refine d_one 25 (by kernel_rfl) rfl rfl (d_store Tryz.sizeOf3 rfl rfl rfl (nV_bd hi) (nV_set hi)) rfl ?_; clear hS
    rintro _ _ rfl
    refine ⟨(sc_own sc_end), fun hS => ?_⟩
    refine d_take 26 rfl rfl (by kernel_rfl) (by kernel_rfl) (by kernel_rfl) rfl hS (v_idx Tryz.underlying37 Tryz.sizeOf3 rfl rfl rfl hk (by first | exact Nat.zero_add _ | rfl)) ?_
    refine d_one 27 (by kernel_rfl) rfl rfl (d_store Tryz.sizeOf3 rfl rfl rfl (nV_bd (by simpa using hk)) (nV_set (by simpa using hk))) rfl ?_; clear hS
    rintro _ _ rfl
    refine ⟨(sc_own sc_end), fun hS => ?_⟩
    refine d_done (by kernel_rfl) ?_; clear hS
    refine x_done (.inr rfl) .nil ?_
    exact ⟨_, ⟨rfl, rfl⟩, ent_rwN nV1_len rfl rfl ho (by simp [Hp.swapL]) (by simpa [Hp.swapL] using h1) h2 (by rw [List.length_append, flat_len nV1_len] at h3 ⊢; simpa [Hp.swapL] using h3)⟩
theorem lfPop_spec (W0 : World) (R : List HP) (pb w : Nat) (its : List Nat) (x : Nat) (cs : List Value) :
    Spec Tryz.prog W0 496 [lpP pb w] (lfH w pb (its ++ [x], cs) :: R) (fun v B => v = .iface 3 (.int .i64 (x : Int)) ∧ B = lfH w pb (its, cs) :: R) := by
  refine spec_rwN nV1_len (by simp) (by decide) fun g c sp ho h1 h2 h3 => ?_
  have hl : (its ++ [x]).length = its.length + 1 := by simp
  rw [hl] at h1 ⊢
  have hg : (its ++ [x]).getD its.length default = x := by simp [List.getD]
  have he : (its ++ [x]).flatMap nV1 ++ sp = its.flatMap nV1 ++ (nV1 x ++ sp) := by simp
  have hget := nV_get (its := its ++ [x]) (sp := sp) (i := its.length) (by omega)
  rw [hg] at hget
  refine spec_body Tryz.func496 Tryz.ntmps496 rfl rfl ?_
  refine x_seq (x_region (s_val rfl (v_assign rfl) (x_nil (n_then (x_seq (x_region (s_val rfl (v_move rfl) (s_val rfl (v_nilCheck rfl) ?_))))))))
  refine s_val rfl (v_fieldAddr rfl Tryz.underlying417 rfl Tryz.sizeOf37 rfl (by first | exact Nat.zero_add _ | rfl)) ?_
  refine s_val rfl (v_load Tryz.isAgg37 rfl (cell_own (set_at ho))) ?_
  refine s_val rfl (v_len_slice Tryz.underlying37 rfl) ?_
  refine s_val rfl (v_sub rfl rfl (by rw [w64 (by simp only [maxLen] at h2; omega)]; omega : IntKind.wrap .i64 (((its.length + 1 : Nat) : Int) - 1) = ((its.length : Nat) : Int))) ?_
  refine s_val rfl (v_assign rfl) (x_nil (n_then (x_seq (x_region (s_val rfl (v_move rfl) (s_val rfl (v_nilCheck rfl) ?_))))))
  refine s_val rfl (v_fieldAddr rfl Tryz.underlying417 rfl Tryz.sizeOf37 rfl (by first | exact Nat.zero_add _ | rfl)) ?_
  refine s_val rfl (v_load Tryz.isAgg37 rfl (cell_own (set_at ho))) ?_
  refine s_val rfl (v_move rfl) ?_
  refine s_val rfl (v_idx Tryz.underlying37 Tryz.sizeOf3 rfl rfl rfl (by omega) (by first | exact Nat.zero_add _ | rfl)) ?_
  refine s_val rfl (v_load Tryz.isAgg3 rfl (cell_own hget)) ?_
  refine s_val rfl (v_assign rfl) (x_nil (n_then (x_seq (x_region (s_val rfl (v_move rfl) (s_val rfl (v_move rfl) (s_val rfl (v_nilCheck rfl) ?_)))))))
  refine s_val rfl (v_fieldAddr rfl Tryz.underlying417 rfl Tryz.sizeOf37 rfl (by first | exact Nat.zero_add _ | rfl)) ?_
  refine s_val rfl (v_load Tryz.isAgg37 rfl (cell_own (set_at ho))) ?_
  refine s_val rfl (v_move rfl) ?_
  refine s_val rfl (v_sliceH Tryz.underlying37 Tryz.sizeOf3 rfl rfl rfl (by omega)) ?_
  refine s_val rfl (v_nilCheck rfl) ?_
  refine s_val rfl (v_fieldAddr rfl Tryz.underlying417 rfl Tryz.sizeOf37 rfl (by first | exact Nat.zero_add _ | rfl)) ?_
  refine s_do0 (d_store Tryz.sizeOf37 rfl rfl rfl (by rw [List.length_set]; exact ho) set_set) ?_
  rintro _ _ rfl
  refine x_nil (n_then (x_seq (x_region (s_val rfl (v_move rfl) ?_))))
  refine s_val rfl (v_mkI Tryz.underlying3 (fun _ h => nomatch h) rfl) ?_
  refine s_val rfl (v_assign rfl) (x_nil (n_then (x_ret (x_done (.inl rfl) (.cons (r_tmp rfl) .nil) ?_))))
  rw [he]
  exact ⟨_, ⟨rfl, rfl⟩, ent_rwN (sp := nV1 x ++ sp) nV1_len rfl rfl ho rfl (by omega) h2 (by rw [← he]; exact h3)⟩
theorem lfPush_spec (W0 : World) (R : List HP) (pb w : Nat) (its : List Nat) (x : Nat) (cs : List Value) (hn : its.length < 1000) :
    Spec Tryz.prog W0 497 [lpP pb w, .iface 3 (.int .i64 (x : Int))] (lfH w pb (its, cs) :: R) (fun v B => v = .tuple #[] ∧ B = lfH w pb (its ++ [x], cs) :: R) := by
  refine spec_rw fun a c ho => ?_
  have he : its.flatMap nV1 ++ [Value.int .i64 (x : Int)] = (its ++ [x]).flatMap nV1 := by simp
  refine spec_body Tryz.func497 Tryz.ntmps497 rfl rfl ?_
  refine x_draw [] 12 mixed rfl sc_end (fun hS => ?_)
  refine d_take 0 rfl rfl (by kernel_rfl) (by kernel_rfl) (by kernel_rfl) rfl hS (v_move rfl) ?_
  refine d_take 1 rfl rfl (by kernel_rfl) (by kernel_rfl) (by kernel_rfl) rfl hS (v_move rfl) ?_
  refine d_take 2 rfl rfl (by kernel_rfl) (by kernel_rfl) (by kernel_rfl) rfl hS (v_nilCheck rfl) ?_
  refine d_take 3 rfl rfl (by kernel_rfl) (by kernel_rfl) (by kernel_rfl) rfl hS (v_fieldAddr rfl Tryz.underlying417 rfl Tryz.sizeOf37 rfl (by first | exact Nat.zero_add _ | rfl)) ?_
  refine d_take 5 rfl rfl (by kernel_rfl) (by kernel_rfl) (by kernel_rfl) rfl hS (v_move rfl) ?_
  refine d_take 6 rfl rfl (by kernel_rfl) (by kernel_rfl) (by kernel_rfl) rfl hS (v_assert Tryz.underlying3 (fun _ h => nomatch h) rfl) ?_
  refine d_all (is := [4, 7]) (by kernel_rfl) rfl ⟨?_, ?_, trivial⟩
  · skip
    refine dx_one rfl rfl (d_val (v_load Tryz.isAgg37 rfl (cell_own (set_at ho)))) rfl ?_; clear hS
    rintro _ _ ⟨rfl, rfl⟩
    refine ⟨sc_end, fun hS => ?_⟩
    refine d_one 7 (by kernel_rfl) rfl rfl (d_sliceLit Tryz.underlying37 Tryz.sizeOf3 Tryz.zeroValue3 rfl rfl rfl rfl rfl (by decide) (by decide)) rfl ?_; clear hS
    rintro _ _ ⟨b1, rfl, rfl⟩
    refine ⟨sc_end, fun hS => ?_⟩
    refine d_one 8 (by kernel_rfl) rfl rfl (d_append (sz := 1) (by_ := 8) (info := Tryz.t3) Tryz.underlying37 (by kernel_rfl) rfl rfl rfl rfl (by decide) rfl rfl cells_all rfl rfl (by simp only [maxLen]; omega) (by omega)) rfl ?_; clear hS
    rintro _ _ ⟨a1, c1, rfl, rfl⟩
    refine ⟨sc_end, fun hS => ?_⟩
    refine d_take 9 rfl rfl (by kernel_rfl) (by kernel_rfl) (by kernel_rfl) rfl hS (v_nilCheck rfl) ?_
    refine d_take 10 rfl rfl (by kernel_rfl) (by kernel_rfl) (by kernel_rfl) rfl hS (v_fieldAddr rfl Tryz.underlying417 rfl Tryz.sizeOf37 rfl (by first | exact Nat.zero_add _ | rfl)) ?_
    refine d_one 11 (by kernel_rfl) rfl rfl (d_store Tryz.sizeOf37 rfl rfl rfl (by rw [List.length_set]; exact ho) set_set) rfl ?_; clear hS
    rintro _ _ rfl
    refine ⟨sc_end, fun hS => ?_⟩
    refine d_done (by kernel_rfl) ?_; clear hS
    refine x_done (.inr rfl) .nil ?_
    exact ⟨_, ⟨rfl, rfl⟩, ent_rw (its := its ++ [x]) he rfl ho (by simp)⟩
  · skip
    refine dx_one rfl rfl (d_sliceLit Tryz.underlying37 Tryz.sizeOf3 Tryz.zeroValue3 rfl rfl rfl rfl rfl (by decide) (by decide)) rfl ?_; clear hS
    rintro _ _ ⟨b1, rfl, rfl⟩
    refine ⟨sc_end, fun hS => ?_⟩
    refine d_one 4 (by kernel_rfl) rfl rfl (d_val (v_load Tryz.isAgg37 rfl (cell_own (set_at ho)))) rfl ?_; clear hS
    rintro _ _ ⟨rfl, rfl⟩
    refine ⟨sc_end, fun hS => ?_⟩
    refine d_one 8 (by kernel_rfl) rfl rfl (d_append (sz := 1) (by_ := 8) (info := Tryz.t3) Tryz.underlying37 (by kernel_rfl) rfl rfl rfl rfl (by decide) rfl rfl cells_all rfl rfl (by simp only [maxLen]; omega) (by omega)) rfl ?_; clear hS
    rintro _ _ ⟨a1, c1, rfl, rfl⟩
    refine ⟨sc_end, fun hS => ?_⟩
    refine d_take 9 rfl rfl (by kernel_rfl) (by kernel_rfl) (by kernel_rfl) rfl hS (v_nilCheck rfl) ?_
    refine d_take 10 rfl rfl (by kernel_rfl) (by kernel_rfl) (by kernel_rfl) rfl hS (v_fieldAddr rfl Tryz.underlying417 rfl Tryz.sizeOf37 rfl (by first | exact Nat.zero_add _ | rfl)) ?_
    refine d_one 11 (by kernel_rfl) rfl rfl (d_store Tryz.sizeOf37 rfl rfl rfl (by rw [List.length_set]; exact ho) set_set) rfl ?_; clear hS
    rintro _ _ rfl
    refine ⟨sc_end, fun hS => ?_⟩
    refine d_done (by kernel_rfl) ?_; clear hS
    refine x_done (.inr rfl) .nil ?_
    exact ⟨_, ⟨rfl, rfl⟩, ent_rw (its := its ++ [x]) he rfl ho (by simp)⟩
section
variable (w : World) (a : Addr)
theorem mf_len : (method (Tryz.prog.types.size + Made.depth) 454 (.pointer (some a)) "Len").run Tryz.prog w = .ok (299, .pointer (some a)) w := by kernel_rfl
theorem mf_less : (method (Tryz.prog.types.size + Made.depth) 454 (.pointer (some a)) "Less").run Tryz.prog w = .ok (495, .pointer (some a)) w := by kernel_rfl
theorem mf_swap : (method (Tryz.prog.types.size + Made.depth) 454 (.pointer (some a)) "Swap").run Tryz.prog w = .ok (498, .pointer (some a)) w := by kernel_rfl
theorem mf_push : (method (Tryz.prog.types.size + Made.depth) 454 (.pointer (some a)) "Push").run Tryz.prog w = .ok (497, .pointer (some a)) w := by kernel_rfl
theorem mf_pop : (method (Tryz.prog.types.size + Made.depth) 454 (.pointer (some a)) "Pop").run Tryz.prog w = .ok (496, .pointer (some a)) w := by kernel_rfl
end
def lfO (W0 : World) (pb w : Nat) (cs : List Value) : HpO W0 Nat where
  T := 454
  p := lpP pb w
  el := fun x => .iface 3 (.int .i64 (x : Int))
  H := fun l => lfH w pb (l, cs)
  fL := 299
  fE := 495
  fS := 498
  fU := 497
  fO := 496
  mL := fun u => mf_len u _
  mE := fun u => mf_less u _
  mS := fun u => mf_swap u _
  mU := fun u => mf_push u _
  mO := fun u => mf_pop u _
  cL := Tryz.call299
  cE := Tryz.call495
  cS := Tryz.call498
  cU := Tryz.call497
  cO := Tryz.call496
  sL := fun R l => lfLen_spec W0 R pb w l cs
  sE := fun R l i j hi hj => lfLess_spec W0 R pb w l cs i j hi hj
  sS := fun R l i j hi hj => lfSwap_spec W0 R pb w l cs i j hi hj
  sU := fun R l x hl => lfPush_spec W0 R pb w l x cs hl
  sO := fun R l x => lfPop_spec W0 R pb w l x cs
theorem poPush_spec (W0 : World) (R : List HP) (pb w : Nat) (its : List Nat) (x : Nat) (cs : List Value) (hN : its.length < 900) (hh : Hp.Heap its its.length) :
    Spec Tryz.prog W0 176 [.iface 454 (lpP pb w), .iface 3 (.int .i64 (x : Int))] (lfH w pb (its, cs) :: R) (fun v B => v = .tuple #[] ∧ ∃ its', B = lfH w pb (its', cs) :: R ∧ its'.Perm (its ++ [x]) ∧ Hp.Heap its' its'.length) :=
  Hp.heapPush_spec (lfO W0 pb w cs) R its x hN hh
theorem poPop_spec (W0 : World) (R : List HP) (pb w : Nat) (its : List Nat) (cs : List Value) (hN : its.length < 900) (h0 : its ≠ []) (hh : Hp.Heap its its.length) :
    Spec Tryz.prog W0 300 [.iface 454 (lpP pb w)] (lfH w pb (its, cs) :: R) (fun v B => ∃ x its', v = .iface 3 (.int .i64 ((x : Nat) : Int)) ∧ B = lfH w pb (its', cs) :: R ∧ (its' ++ [x]).Perm its ∧ Hp.Heap its' its'.length ∧ ∀ y ∈ its, (x : Int) ≤ (y : Int)) :=
  Hp.heapPop_spec (lfO W0 pb w cs) R its hN h0 hh
end Go.Proofs.YtnidndllknffgaaGreat
namespace Go.Proofs.YtnidndllknffgaaGreat
open Go.RowKit
set_option linter.unusedSimpArgs false
set_option linter.unusedVariables false
set_option maxRecDepth 20000
def mostP (x : Prt) : Nat := if x.gu = -1 then 64 else 4
end Go.Proofs.YtnidndllknffgaaGreat
namespace Go.Proofs.YtnidndllknffgaaGreat
open Go.RowKit
set_option linter.unusedSimpArgs false
set_option linter.unusedVariables false
set_option maxRecDepth 20000
def PrOk (ps : List Prt) : Prop := ps.length ≤ 8 ∧ ∀ x ∈ ps, x.l.length ≤ mostP x
theorem PrOk.at_ {ps : List Prt} (h : PrOk ps) {i : Nat} (hi : i < ps.length) : (ps.getD i default).l.length ≤ mostP (ps.getD i default) := by
  rw [show ps.getD i default = ps[i] by simp [List.getD, hi]]; exact h.2 _ (List.getElem_mem hi)
theorem PrOk.set {ps : List Prt} (h : PrOk ps) {i : Nat} {x : Prt} (hx : x.l.length ≤ mostP x) : PrOk (ps.set i x) := ⟨by simpa using h.1, fun y hy => by
  rcases List.mem_or_eq_of_mem_set hy with q | q
  · exact h.2 y q
  · rw [q]; exact hx⟩
end Go.Proofs.YtnidndllknffgaaGreat
namespace Go.Proofs.YtnidndllknffgaaGreat
open Go.RowKit
set_option linter.unusedSimpArgs false
set_option linter.unusedVariables false
set_option maxRecDepth 20000
end Go.Proofs.YtnidndllknffgaaGreat
namespace Go.Proofs.YtnidndllknffgaaGreat
open Go.RowKit
set_option linter.unusedSimpArgs false
set_option linter.unusedVariables false
set_option maxRecDepth 20000
abbrev Pt2 := Int × Int
@[reducible] def ptV2 (x : Pt2) : List Value := [.int .i64 x.1, .int .i64 x.2]
def newP (l : List Pt2) : List Prt := l.map fun x => ⟨x.1, x.2, []⟩
theorem newP_len (l : List Pt2) : (newP l).length = l.length := by simp [newP]
def nilS : Value := .slice none 0 0
theorem ent_boxes {R : List HP} : ∀ l : List Pt2, Ent R (kH 2 (grp (((List.replicate l.length nilS).zip (newP l)).map inS)) :: R)
  | [] => ent_shut (A := [])
  | x :: l => by
    have ih := ent_boxes (R := R) l
    refine ih.trans ?_
    refine (ent_open (A := ((List.replicate l.length nilS).zip (newP l)).map inS) (R := R)).trans ?_
    refine (ent_osl_nil (E := 9) (sz := 1) (B := ((List.replicate l.length nilS).zip (newP l)).map inS ++ R)).trans ?_
    exact ent_shut (A := inS (nilS, ⟨x.1, x.2, []⟩) :: ((List.replicate l.length nilS).zip (newP l)).map inS) (R := R)
theorem rows_new (l : List Pt2) : ((List.replicate l.length nilS).zip (newP l)).flatMap prV = l.flatMap fun x => [.int .i64 x.1, .int .i64 x.2, nilS] := by
  induction l with
  | nil => rfl
  | cons x l ih =>
    rw [List.flatMap_cons, ← ih]
    rfl
theorem prNew_spec (W0 : World) (R : List HP) (l : List Pt2) (a : Option Addr) (n c : Nat) (hln : l.length = n) (hn : n ≤ 8) (hs : SlA (OwnP W0 R) a 2 ptV2 l) (hlab : ∀ x ∈ l, isL x.1 = true) :
    Spec Tryz.prog W0 50 [.slice a n c] R (fun v B => ∃ p, v = .tuple #[.pointer (some ⟨p, 0, none⟩), .int .i64 0] ∧ B = portsH p (newP l) :: R) := by
  subst hln
  refine spec_body Tryz.func50 Tryz.ntmps50 rfl rfl ?_
  refine x_seq (x_region (s_val rfl (v_assign rfl) (s_val rfl (v_assign rfl) (x_nil (n_then (x_seq (x_seq (x_region (s_val rfl (v_move rfl) (s_val rfl (v_len_slice Tryz.underlying25 rfl) (s_val rfl (v_gtr rfl rfl) (x_nil (n_then ?_)))))))))))))
  refine x_if rfl ?_ ?_
  · intro c1
    omega
  · intro c1
    refine x_skip (n_then (x_seq (x_region (s_val rfl (v_build Tryz.underlying267 Tryz.zeroValue267 (sized_cons Tryz.sizeOf265 (sized_cons Tryz.sizeOf4 sized_nil)) (fil_scal rfl Tryz.sizeOf4 rfl rfl (Nat.le_of_ble_eq_true rfl) SetL.eq fil_nil)) ?_))))
    refine s_do rfl (d_boxA rfl) ?_
    rintro _ _ ⟨p, rfl, rfl⟩
    refine s_val rfl (v_assign rfl) (x_nil (n_then (x_seq (x_seq (x_region (s_val rfl (v_move rfl) (s_val rfl (v_len_slice Tryz.underlying25 rfl) (s_val rfl (v_move rfl) (x_nil (n_then (x_block ?_)))))))))))
    refine x_loop (fun X : Nat × Option Addr × Nat => X.1 ≤ l.length) (fun X => [(4, .pointer (some ⟨p, 0, none⟩)), (12, .slice a l.length c), (13, .int .i64 (l.length : Nat)), (14, .int .i64 X.1)]) (fun X => pt p (cob [.slice X.2.1 X.1 X.2.2, .bool true] 267) :: osl 270 3 (.slice X.2.1 X.1 X.2.2) ((l.take X.1).flatMap fun x => [.int .i64 x.1, .int .i64 x.2, nilS]) :: R) (fun X => l.length - X.1) (0, none, 0) ?_ ?_ ?_ ?_
    · exact Nat.zero_le _
    · repeat (first | exact sub_nil | refine sub_cons rfl ?_)
    · exact (Ent.cons (ent_osl_nil (E := 270) (sz := 3)))
    · intro ⟨i, a2, c2⟩ hi
      dsimp only at hi ⊢
      refine x_seq (x_region (s_val rfl (v_lss rfl rfl) (x_nil (n_then (x_seq ?_)))))
      refine x_if rfl ?_ ?_
      · intro c5
        have hi1 : i < l.length := by omega
        obtain ⟨g, o, rfl, hc⟩ := hs.at_ hi1
        have hlb := hlab _ (List.getElem_mem hi1)
        have htk : l.take (i + 1) = l.take i ++ [l[i]] := List.take_succ_eq_append_getElem hi1
        refine x_skip (n_then (x_seq (x_block (x_seq (x_region ?_)))))
        refine s_val rfl (v_idx Tryz.underlying25 Tryz.sizeOf146 rfl rfl rfl hi1 (by first | exact Nat.zero_add _ | rfl)) ?_
        refine s_val rfl (v_loadAgg Tryz.isAgg146 Tryz.sizeOf146 rfl hc.weak rfl) ?_
        refine s_do rfl (d_allocA Tryz.zeroValue146) ?_
        rintro _ _ ⟨bx, rfl, rfl⟩
        refine s_do0 (d_storeAll Tryz.sizeOf146 rfl rfl rfl rfl rfl) ?_
        rintro _ _ rfl
        refine x_nil (n_then (x_seq (x_seq (x_region ?_))))
        refine s_val rfl (v_fieldAddr rfl Tryz.underlying146 rfl Tryz.sizeOf3 rfl (by first | exact Nat.zero_add _ | rfl)) ?_
        refine s_val rfl (v_load Tryz.isAgg3 rfl (cell_own rfl)) ?_
        refine s_do rfl (d_call Tryz.call126 rfl (lbCount_spec W0 _ l[i].1)) ?_
        rintro _ B_ ⟨m, rfl, hm, hB_⟩
        obtain rfl := hB_.symm
        rw [hlb] at hm
        have hm0 : ¬ m < 0 := by simpa using hm
        refine s_val rfl (v_lss rfl rfl) (x_nil (n_then ?_))
        refine x_if rfl ?_ ?_
        · intro c7
          exact absurd c7 hm0
        · intro c7
          refine x_skip (n_then ?_)
          refine x_draw [(bx, 0, _)] 12 mixed rfl (sc_own sc_end) (fun hS => ?_)
          refine d_take 0 rfl rfl (by kernel_rfl) (by kernel_rfl) (by kernel_rfl) rfl hS (v_move rfl) ?_
          refine d_take 1 rfl rfl (by kernel_rfl) (by kernel_rfl) (by kernel_rfl) rfl hS (v_move rfl) ?_
          refine d_take 2 rfl rfl (by kernel_rfl) (by kernel_rfl) (by kernel_rfl) rfl hS (v_nilCheck rfl) ?_
          refine d_take 3 rfl rfl (by kernel_rfl) (by kernel_rfl) (by kernel_rfl) rfl hS (v_fieldAddr rfl Tryz.underlying267 rfl Tryz.sizeOf265 rfl (by first | exact Nat.zero_add _ | rfl)) ?_
          refine d_take 5 rfl rfl (by kernel_rfl) (by kernel_rfl) (by kernel_rfl) rfl hS (v_loadAgg Tryz.isAgg146 Tryz.sizeOf146 rfl (cells_sc (k := 0) rfl) rfl) ?_
          refine d_take 6 rfl rfl (by kernel_rfl) (by kernel_rfl) (by kernel_rfl) rfl hS (v_build Tryz.underlying270 Tryz.zeroValue270 (sized_cons Tryz.sizeOf146 (sized_cons Tryz.sizeOf218 sized_nil)) (fil_agg rfl Tryz.sizeOf146 rfl rfl (Nat.le_of_ble_eq_true rfl) SetRL.eq fil_nil)) ?_
          refine d_all (is := [4, 7]) (by kernel_rfl) rfl ⟨?_, ?_, trivial⟩
          · skip
            refine dx_one rfl rfl (d_val (v_load Tryz.isAgg265 rfl (cell_own rfl))) rfl ?_; clear hS
            rintro _ _ ⟨rfl, rfl⟩
            refine ⟨(sc_own sc_end), fun hS => ?_⟩
            refine d_one 7 (by kernel_rfl) rfl rfl (d_sliceAgg Tryz.underlying265 Tryz.sizeOf270 Tryz.zeroValue270 rfl (elsK_cons rfl rfl elsK_nil) rfl (by decide) (by decide) (by decide)) rfl ?_; clear hS
            rintro _ _ ⟨b3, rfl, rfl⟩
            refine ⟨(sc_own sc_end), fun hS => ?_⟩
            refine d_one 8 (by kernel_rfl) rfl rfl (d_append (sz := 3) (by_ := 40) (info := Tryz.t270) Tryz.underlying265 (by kernel_rfl) rfl rfl rfl rfl (by decide) rfl rfl cells_all rfl rfl (by simp only [maxLen]; omega) (by omega)) rfl ?_; clear hS
            rintro _ _ ⟨a3, c3, rfl, rfl⟩
            refine ⟨(sc_own sc_end), fun hS => ?_⟩
            refine d_take 9 rfl rfl (by kernel_rfl) (by kernel_rfl) (by kernel_rfl) rfl hS (v_nilCheck rfl) ?_
            refine d_take 10 rfl rfl (by kernel_rfl) (by kernel_rfl) (by kernel_rfl) rfl hS (v_fieldAddr rfl Tryz.underlying267 rfl Tryz.sizeOf265 rfl (by first | exact Nat.zero_add _ | rfl)) ?_
            refine d_one 11 (by kernel_rfl) rfl rfl (d_store Tryz.sizeOf265 rfl rfl rfl (Nat.le_of_ble_eq_true rfl) SetL.eq) rfl ?_; clear hS
            rintro _ _ rfl
            refine ⟨(sc_own sc_end), fun hS => ?_⟩
            refine d_done (by kernel_rfl) ?_; clear hS
            refine n_block (n_then (x_region ?_))
            refine s_val rfl (v_add rfl rfl (by first | exact w64 (by omega) | rfl)) ?_
            refine s_val rfl (v_move rfl) (x_nil (n_then ?_))
            refine inv_intro (i + 1, a3, c3) ?_ ?_ ?_ ?_
            · omega
            · omega
            · repeat (first | exact sub_nil | refine sub_cons rfl ?_)
            · dsimp only
              rw [htk, List.flatMap_append]
              show Ent _ (pt p (cob [.slice a3 (i + 1) c3, .bool true] 267) :: osl 270 3 (.slice a3 (i + 1) c3) (((l.take i).flatMap fun x => [.int .i64 x.1, .int .i64 x.2, nilS]) ++ [[.int .i64 l[i].1, .int .i64 l[i].2, .slice none 0 0]].flatten) :: R)
              exact inferInstance
          · skip
            refine dx_one rfl rfl (d_sliceAgg Tryz.underlying265 Tryz.sizeOf270 Tryz.zeroValue270 rfl (elsK_cons rfl rfl elsK_nil) rfl (by decide) (by decide) (by decide)) rfl ?_; clear hS
            rintro _ _ ⟨b3, rfl, rfl⟩
            refine ⟨(sc_own sc_end), fun hS => ?_⟩
            refine d_one 4 (by kernel_rfl) rfl rfl (d_val (v_load Tryz.isAgg265 rfl (cell_own rfl))) rfl ?_; clear hS
            rintro _ _ ⟨rfl, rfl⟩
            refine ⟨(sc_own sc_end), fun hS => ?_⟩
            refine d_one 8 (by kernel_rfl) rfl rfl (d_append (sz := 3) (by_ := 40) (info := Tryz.t270) Tryz.underlying265 (by kernel_rfl) rfl rfl rfl rfl (by decide) rfl rfl cells_all rfl rfl (by simp only [maxLen]; omega) (by omega)) rfl ?_; clear hS
            rintro _ _ ⟨a3, c3, rfl, rfl⟩
            refine ⟨(sc_own sc_end), fun hS => ?_⟩
            refine d_take 9 rfl rfl (by kernel_rfl) (by kernel_rfl) (by kernel_rfl) rfl hS (v_nilCheck rfl) ?_
            refine d_take 10 rfl rfl (by kernel_rfl) (by kernel_rfl) (by kernel_rfl) rfl hS (v_fieldAddr rfl Tryz.underlying267 rfl Tryz.sizeOf265 rfl (by first | exact Nat.zero_add _ | rfl)) ?_
            refine d_one 11 (by kernel_rfl) rfl rfl (d_store Tryz.sizeOf265 rfl rfl rfl (Nat.le_of_ble_eq_true rfl) SetL.eq) rfl ?_; clear hS
            rintro _ _ rfl
            refine ⟨(sc_own sc_end), fun hS => ?_⟩
            refine d_done (by kernel_rfl) ?_; clear hS
            refine n_block (n_then (x_region ?_))
            refine s_val rfl (v_add rfl rfl (by first | exact w64 (by omega) | rfl)) ?_
            refine s_val rfl (v_move rfl) (x_nil (n_then ?_))
            refine inv_intro (i + 1, a3, c3) ?_ ?_ ?_ ?_
            · omega
            · omega
            · repeat (first | exact sub_nil | refine sub_cons rfl ?_)
            · dsimp only
              rw [htk, List.flatMap_append]
              show Ent _ (pt p (cob [.slice a3 (i + 1) c3, .bool true] 267) :: osl 270 3 (.slice a3 (i + 1) c3) (((l.take i).flatMap fun x => [.int .i64 x.1, .int .i64 x.2, nilS]) ++ [[.int .i64 l[i].1, .int .i64 l[i].2, .slice none 0 0]].flatten) :: R)
              exact inferInstance
      · intro c5
        refine x_exit (e_then (e_then (e_block (n_then (x_seq (x_region (s_val rfl (v_move rfl) (s_val rfl (v_assign rfl) (s_val rfl (v_assign rfl) (x_nil (n_then (x_ret (x_done (.inl rfl) (.cons (r_tmp rfl) (.cons (r_tmp rfl) .nil)) ?_)))))))))))))
        obtain rfl : i = l.length := by omega
        rw [List.take_of_length_le (Nat.le_refl _), ← rows_new l]
        refine ⟨_, ⟨p, rfl, rfl⟩, ?_⟩
        exact (Ent.cons (Ent.cons (ent_boxes (R := R) l))).trans (ent_ports (by rw [List.length_replicate, newP_len]) (newP_len l).symm)
end Go.Proofs.YtnidndllknffgaaGreat
namespace Go.Proofs.YtnidndllknffgaaGreat
open Go.RowKit
set_option linter.unusedSimpArgs false
set_option linter.unusedVariables false
set_option maxRecDepth 20000
theorem frClear_spec (W0 : World) (R : List HP) (ps : Nat) (fr : List Frm) (f : Nat) (hf : f < fr.length) :
    Spec Tryz.prog W0 339 [.pointer (some ⟨ps, 0, none⟩), .int .i64 f] (stoH ps fr :: R) (fun v B => v = .int .i64 0 ∧ B = stoH ps (fr.set f zeros) :: R) := by
  have hi : isF fr.length f = true := by simp only [isF, decide_eq_true_eq]; omega
  refine spec_body Tryz.func339 Tryz.ntmps339 rfl rfl ?_
  refine x_seq (x_region (s_val rfl (v_assign rfl) (x_nil (n_then (x_seq (x_seq (x_region (s_val rfl (v_move rfl) (s_val rfl (v_move rfl) (s_do rfl (d_call1 Tryz.call72 rfl (frMay_spec W0 _ ps fr f)) ?_))))))))))
  rintro _ B_ ⟨rfl, hB_⟩
  obtain rfl := hB_.symm
  refine s_val rfl (v_assign rfl) (x_nil (n_then (x_seq (x_region (s_val rfl (v_move rfl) (s_val rfl (v_neq rfl rfl) (x_nil (n_then ?_))))))))
  refine x_if rfl ?_ ?_
  · intro c2
    exact absurd c2 (by simp [hi])
  · intro c2
    refine x_skip (n_then (x_seq ?_))
    refine run_sto (ps := ps) fun g => ?_
    refine x_region (s_val rfl (v_move rfl) (s_val rfl (v_nilCheck rfl) ?_))
    refine s_val rfl (v_fieldAddr rfl Tryz.underlying181 rfl Tryz.sizeOf179 rfl (by first | exact Nat.zero_add _ | rfl)) ?_
    refine s_val rfl (v_load Tryz.isAgg179 rfl (cell_own rfl)) ?_
    refine s_val rfl (v_move rfl) (s_val rfl (v_build0 Tryz.underlying178 Tryz.sizeOf5 Tryz.zeroValue178 rfl) ?_)
    refine s_val rfl (v_idx Tryz.underlying179 Tryz.sizeOf178 rfl rfl rfl hf (by first | exact Nat.zero_add _ | rfl)) ?_
    refine s_do0 (d_storeAgg Tryz.sizeOf178 rfl rfl rfl rfl (by rw [fr_len]; omega) (fr_set (y := zeros) hf rfl)) ?_
    rintro _ _ rfl
    refine x_nil (n_then (x_seq (x_region (s_val rfl (v_assign rfl) (x_nil (n_then (x_ret (x_done (.inl rfl) (.cons (r_tmp rfl) .nil) ?_))))))))
    exact ⟨_, ⟨rfl, rfl⟩, ent_sto rfl (by simp)⟩
theorem poNone_spec (W0 : World) (R : List HP) (pb ps : Nat) (po : Po) (h0 : 0 < po.length) :
    Spec Tryz.prog W0 257 [.pointer (some ⟨pb, 0, none⟩)] (poH pb (ps, po) :: R) (fun v B => v = .bool false ∧ B = poH pb (ps, po) :: R) := by
  refine spec_po fun a c vs Ls hv hL => ?_
  refine spec_body Tryz.func257 Tryz.ntmps257 rfl rfl ?_
  refine x_seq (x_region (s_val rfl (v_assign rfl) (x_nil (n_then (x_seq (x_region (s_val rfl (v_move rfl) (s_val rfl (v_eql_ptr_nil Tryz.underlying64 rfl rfl) (s_val rfl (v_move rfl) ?_)))))))))
  refine s_or rfl rfl rfl ?_ ?_
  · intro g1_3
    cases g1_3
  · intro g1_3
    refine s_val rfl (v_move rfl) (s_yes rfl rfl (s_val rfl (v_nilCheck rfl) (s_yes rfl rfl ?_)))
    refine s_val rfl (v_fieldAddr rfl Tryz.underlying420 rfl Tryz.sizeOf415 rfl (by first | exact Nat.zero_add _ | rfl)) ?_
    refine s_yes rfl rfl (s_val rfl (v_load Tryz.isAgg415 rfl (cell_own rfl)) ?_)
    refine s_yes rfl rfl (s_val rfl (v_len_slice Tryz.underlying415 rfl) (s_yes rfl rfl (s_val rfl (v_eql rfl rfl) (s_val rfl (v_pick_f rfl rfl) (s_val rfl (v_assign rfl) (x_nil (n_then (x_ret (x_done (.inl rfl) (.cons (r_tmp rfl) .nil) ?_)))))))))
    exact ⟨_, ⟨by simp [pack, show po ≠ [] from fun e => by subst e; simp at h0], rfl⟩, ent_po rfl hv hL rfl rfl⟩
theorem poIs_spec (W0 : World) (R : List HP) (pb ps : Nat) (po : Po) (f : Int) :
    Spec Tryz.prog W0 258 [.pointer (some ⟨pb, 0, none⟩), .int .i64 f] (poH pb (ps, po) :: R) (fun v B => v = .bool (isF po.length f) ∧ B = poH pb (ps, po) :: R) := by
  refine spec_po fun a c vs Ls hv hL => ?_
  refine spec_body Tryz.func258 Tryz.ntmps258 rfl rfl ?_
  refine x_seq (x_region (s_val rfl (v_assign rfl) (x_nil (n_then (x_seq (x_region (s_val rfl (v_move rfl) (s_val rfl (v_geq rfl rfl) (s_val rfl (v_move rfl) ?_)))))))))
  refine s_and rfl rfl rfl ?_ ?_
  · intro g1_3
    refine s_val rfl (v_move rfl) (s_yes rfl rfl (s_val rfl (v_move rfl) (s_yes rfl rfl (s_val rfl (v_nilCheck rfl) (s_yes rfl rfl ?_)))))
    refine s_val rfl (v_fieldAddr rfl Tryz.underlying420 rfl Tryz.sizeOf415 rfl (by first | exact Nat.zero_add _ | rfl)) ?_
    refine s_yes rfl rfl (s_val rfl (v_load Tryz.isAgg415 rfl (cell_own rfl)) ?_)
    refine s_yes rfl rfl (s_val rfl (v_len_slice Tryz.underlying415 rfl) (s_yes rfl rfl (s_val rfl (v_lss rfl rfl) (s_val rfl (v_pick_t rfl rfl) (s_val rfl (v_assign rfl) (x_nil (n_then (x_ret (x_done (.inl rfl) (.cons (r_tmp rfl) .nil) ?_)))))))))
    refine ⟨_, ⟨?_, rfl⟩, ent_po rfl hv hL rfl rfl⟩
    refine congrArg Value.bool ?_
    rw [Bool.eq_iff_iff, isF, decide_eq_true_iff]
    first
      | (rw [decide_eq_true_iff]; constructor <;> (intro q; omega))
      | (constructor
         · intro q; first | omega | (cases q)
         · intro q; omega)
  · intro g1_3
    refine s_no rfl rfl rfl rfl (s_no rfl rfl rfl rfl (s_no rfl rfl rfl rfl (s_no rfl rfl rfl rfl (s_no rfl rfl rfl rfl (s_no rfl rfl rfl rfl (s_val rfl (v_pick_f rfl rfl) (s_val rfl (v_assign rfl) (x_nil (n_then (x_ret (x_done (.inl rfl) (.cons (r_tmp rfl) .nil) ?_)))))))))))
    refine ⟨_, ⟨?_, rfl⟩, ent_po rfl hv hL rfl rfl⟩
    refine congrArg Value.bool ?_
    rw [Bool.eq_iff_iff, isF, decide_eq_true_iff]
    first
      | (rw [decide_eq_true_iff]; constructor <;> (intro q; omega))
      | (constructor
         · intro q; first | omega | (cases q)
         · intro q; omega)
def isW (w : Int) : Bool := decide (0 ≤ w ∧ w < 16)
theorem poPart_spec (W0 : World) (R : List HP) (w : Int) :
    Spec Tryz.prog W0 259 [.int .i64 w] R (fun v B => v = .bool (isW w) ∧ B = R) := by
  refine spec_body Tryz.func259 Tryz.ntmps259 rfl rfl ?_
  refine x_seq (x_region (s_val rfl (v_assign rfl) (x_nil (n_then (x_seq (x_region (s_val rfl (v_move rfl) (s_val rfl (v_geq rfl rfl) (s_val rfl (v_move rfl) ?_)))))))))
  refine s_and rfl rfl rfl ?_ ?_
  · intro g1_3
    refine s_val rfl (v_move rfl) (s_yes rfl rfl (s_val rfl (v_lss rfl rfl) (s_val rfl (v_pick_t rfl rfl) (s_val rfl (v_assign rfl) (x_nil (n_then (x_ret (x_done (.inl rfl) (.cons (r_tmp rfl) .nil) ?_))))))))
    refine ⟨_, ⟨?_, rfl⟩, inferInstance⟩
    refine congrArg Value.bool ?_
    rw [Bool.eq_iff_iff, isW, decide_eq_true_iff]
    first
      | (rw [decide_eq_true_iff]; constructor <;> (intro q; omega))
      | (constructor
         · intro q; first | omega | (cases q)
         · intro q; omega)
  · intro g1_3
    refine s_no rfl rfl rfl rfl (s_val rfl (v_pick_f rfl rfl) (s_val rfl (v_assign rfl) (x_nil (n_then (x_ret (x_done (.inl rfl) (.cons (r_tmp rfl) .nil) ?_))))))
    refine ⟨_, ⟨?_, rfl⟩, inferInstance⟩
    refine congrArg Value.bool ?_
    rw [Bool.eq_iff_iff, isW, decide_eq_true_iff]
    first
      | (rw [decide_eq_true_iff]; constructor <;> (intro q; omega))
      | (constructor
         · intro q; first | omega | (cases q)
         · intro q; omega)
theorem st_snoc (n : Nat) : (List.replicate n ((-1 : Int), false)).flatMap stV ++ [[Value.int .i64 (-1), .bool false]].flatten = (List.replicate (n + 1) ((-1 : Int), false)).flatMap stV := by
  rw [List.replicate_succ', List.flatMap_append]; rfl
theorem ent_lfs {R : List HP} : ∀ n : Nat, Ent R (kH 2 (grp (((List.replicate n nilS).zip (List.replicate n ([] : List Nat))).map lfS)) :: R)
  | 0 => ent_shut (A := [])
  | n + 1 => by
    have ih := ent_lfs (R := R) n
    refine ih.trans ?_
    refine (ent_open (A := ((List.replicate n nilS).zip (List.replicate n ([] : List Nat))).map lfS) (R := R)).trans ?_
    refine (ent_osl_nil (E := 3) (sz := 1) (B := ((List.replicate n nilS).zip (List.replicate n ([] : List Nat))).map lfS ++ R)).trans ?_
    exact ent_shut (A := lfS (nilS, []) :: ((List.replicate n nilS).zip (List.replicate n ([] : List Nat))).map lfS) (R := R)
theorem poNew_spec (W0 : World) (R : List HP) (ps : Nat) (fr : List Frm) (h0 : 0 < fr.length) (h32 : fr.length ≤ 32) :
    Spec Tryz.prog W0 121 [.pointer (some ⟨ps, 0, none⟩)] (stoH ps fr :: R)
      (fun v B => ∃ pb, v = .tuple #[.pointer (some ⟨pb, 0, none⟩), .int .i64 0] ∧ B = poH pb (ps, List.replicate fr.length (-1, false)) :: stoH ps fr :: R) := by
  refine spec_body Tryz.func121 Tryz.ntmps121 rfl rfl ?_
  refine x_seq (x_region (s_val rfl (v_assign rfl) (s_val rfl (v_assign rfl) (x_nil (n_then (x_seq (x_seq (x_region (s_val rfl (v_move rfl) (s_do rfl (d_call1 Tryz.call86 rfl (frLen_spec W0 _ ps fr)) ?_))))))))))
  rintro _ B_ ⟨rfl, hB_⟩
  obtain rfl := hB_.symm
  refine s_val rfl (v_eql rfl rfl) (x_nil (n_then ?_))
  refine x_if rfl ?_ ?_
  · intro c1
    omega
  · intro c1
    refine x_skip (n_then (x_seq (x_region (s_val rfl (v_move rfl) (s_val rfl (v_build Tryz.underlying420 Tryz.zeroValue420 (sized_cons Tryz.sizeOf63 (sized_cons Tryz.sizeOf415 (sized_cons Tryz.sizeOf418 sized_nil))) (fil_scal rfl Tryz.sizeOf63 rfl rfl (Nat.le_of_ble_eq_true rfl) SetL.eq fil_nil)) ?_)))))
    refine s_do rfl (d_boxA rfl) ?_
    rintro _ _ ⟨pb, rfl, rfl⟩
    refine s_val rfl (v_assign rfl) (x_nil (n_then (x_seq (x_seq (x_region (s_val rfl (v_move rfl) (s_do rfl (d_call1 Tryz.call86 rfl (frLen_spec W0 _ ps fr)) ?_)))))))
    rintro _ B_ ⟨rfl, hB_⟩
    obtain rfl := hB_.symm
    refine s_val rfl (v_move rfl) (x_nil (n_then (x_block ?_)))
    refine x_loop (fun X : Nat × Option Addr × Nat => X.1 ≤ fr.length) (fun X => [(4, .pointer (some ⟨pb, 0, none⟩)), (12, .int .i64 (fr.length : Nat)), (13, .int .i64 X.1)]) (fun X => pt pb (cob (poCs ps (.slice X.2.1 X.1 X.2.2) (List.replicate 16 nilS)) 420) :: osl 422 2 (.slice X.2.1 X.1 X.2.2) ((List.replicate X.1 ((-1 : Int), false)).flatMap stV) :: stoH ps fr :: R) (fun X => fr.length - X.1) (0, none, 0) ?_ ?_ ?_ ?_
    · exact Nat.zero_le _
    · repeat (first | exact sub_nil | refine sub_cons rfl ?_)
    · exact (Ent.ofPerm (List.Perm.swap _ _ _)).trans (Ent.cons (ent_osl_nil (E := 422) (sz := 2)))
    · intro ⟨i, a2, c2⟩ hi
      dsimp only at hi ⊢
      refine x_seq (x_region (s_val rfl (v_lss rfl rfl) (x_nil (n_then (x_seq ?_)))))
      refine x_if rfl ?_ ?_
      · intro c5
        refine x_skip (n_then (x_seq (x_block (x_region (s_val rfl (v_move rfl) (s_val rfl (v_move rfl) (s_val rfl (v_nilCheck rfl) ?_)))))))
        refine s_val rfl (v_fieldAddr rfl Tryz.underlying420 rfl Tryz.sizeOf415 rfl (by first | exact Nat.zero_add _ | rfl)) ?_
        refine s_val rfl (v_load Tryz.isAgg415 rfl (cell_own rfl)) ?_
        refine s_val rfl (v_build Tryz.underlying422 Tryz.zeroValue422 (sized_cons Tryz.sizeOf3 (sized_cons Tryz.sizeOf4 sized_nil)) (fil_scal rfl Tryz.sizeOf3 rfl rfl (Nat.le_of_ble_eq_true rfl) SetL.eq fil_nil)) ?_
        refine s_do rfl (d_sliceAgg Tryz.underlying415 Tryz.sizeOf422 Tryz.zeroValue422 rfl (elsK_cons rfl rfl elsK_nil) rfl (by decide) (by decide) (by decide)) ?_
        rintro _ _ ⟨b2, rfl, rfl⟩
        refine s_do rfl (d_append (sz := 2) (by_ := 16) (info := Tryz.t422) Tryz.underlying415 (by kernel_rfl) rfl rfl rfl rfl (by decide) rfl rfl cells_all rfl rfl (by simp only [maxLen]; omega) (by omega)) ?_
        rintro _ _ ⟨a3, c3, rfl, rfl⟩
        refine s_val rfl (v_nilCheck rfl) ?_
        refine s_val rfl (v_fieldAddr rfl Tryz.underlying420 rfl Tryz.sizeOf415 rfl (by first | exact Nat.zero_add _ | rfl)) ?_
        refine s_do0 (d_store Tryz.sizeOf415 rfl rfl rfl (Nat.le_of_ble_eq_true rfl) SetL.eq) ?_
        rintro _ _ rfl
        refine x_nil (n_block (n_then (x_region ?_)))
        refine s_val rfl (v_add rfl rfl (by first | exact w64 (by omega) | rfl)) ?_
        refine s_val rfl (v_move rfl) (x_nil (n_then ?_))
        refine inv_intro (i + 1, a3, c3) ?_ ?_ ?_ ?_
        · show i + 1 ≤ fr.length; omega
        · show fr.length - (i + 1) < fr.length - i; omega
        · repeat (first | exact sub_nil | refine sub_cons rfl ?_)
        · dsimp only
          rw [← st_snoc]
          exact inferInstance
      · intro c5
        refine x_exit (e_then (e_then (e_block (n_then (x_seq (x_region (s_val rfl (v_move rfl) (s_val rfl (v_assign rfl) (s_val rfl (v_assign rfl) (x_nil (n_then (x_ret (x_done (.inl rfl) (.cons (r_tmp rfl) (.cons (r_tmp rfl) .nil)) ?_)))))))))))))
        obtain rfl : i = fr.length := by omega
        refine ⟨_, ⟨pb, rfl, rfl⟩, ?_⟩
        exact (Ent.cons (Ent.cons (ent_lfs (R := stoH ps fr :: R) 16))).trans (ent_po (a := a2) (c := c2) rfl (by simp) (LsOk.new _) (by simp) rfl)
theorem poPut_spec (W0 : World) (R : List HP) (pb ps : Nat) (po : Po) (fr : List Frm) (f w : Nat) (t : Bool) (hf : f < po.length) (hff : f < fr.length) (hw : w < 16) (hP : PoOk po) (ha : poA po f = ((w : Int), t))
    (a : Option Addr) (c : Nat) (vs : List Value) (Ls : List (List Nat)) (hv : vs.length = 16) (hL : LsOk (po.set f (-1, false)) Ls) :
    Spec Tryz.prog W0 260 [.pointer (some ⟨pb, 0, none⟩), .int .i64 f] (pt pb (cob (poCs ps (.slice a po.length c) vs) 420) :: osl 422 2 (.slice a po.length c) (po.flatMap stV) :: kH 2 (grp ((vs.zip Ls).map lfS)) :: stoH ps fr :: R)
      (fun v B => v = .int .i64 0 ∧ B = poH pb (ps, po.set f ((w : Int), false)) :: stoH ps (fr.set f zeros) :: R) := by
  have hrow := hL.row w hw
  have hP1 : PoOk (po.set f (-1, false)) := ⟨by rw [List.length_set]; exact hP.len, fun g hg => by
    rw [List.length_set] at hg
    rw [poA_set hf]
    split
    · exact ⟨by decide, by decide, fun _ => rfl⟩
    · exact hP.who g hg⟩
  have hrl := hL.rlen hP1 hw
  have hown := fre_own (po := po.set f (-1, false)) (f := f) (w := w) (by rw [List.length_set]; exact hf) (by rw [poA_set hf, if_pos rfl]; intro e; have := (Prod.mk.inj e).1; omega)
  rw [List.set_set] at hown
  have hoth : ∀ u, u < 16 → u ≠ w → fre (po.set f ((w : Int), false)) u = fre (po.set f (-1, false)) u := fun u hu hne => by
    have := fre_other (po := po.set f (-1, false)) (f := f) (x := ((w : Int), false)) (w := u) (by rw [List.length_set]; exact hf) (by rw [poA_set hf, if_pos rfl]; intro e; have := (Prod.mk.inj e).1; omega) (by intro e; have := (Prod.mk.inj e).1; omega)
    rw [List.set_set] at this
    exact this
  have hset : (po.set f ((poA po f).1, false)) = po.set f ((w : Int), false) := by rw [ha]
  refine spec_body Tryz.func260 Tryz.ntmps260 rfl rfl ?_
  refine x_seq (x_region (s_val rfl (v_assign rfl) (x_nil (n_then (x_seq ?_)))))
  refine run_tk (r := osl 422 2) (b := .slice a po.length c) (run_osl (fun h1 h2 => by have := congrArg List.length h2; rw [st_len] at this; simp at this; omega) fun g n cap sp h1 h2 h3 h4 h5 => ?_)
  cases h1
  refine x_region (s_val rfl (v_move rfl) (s_val rfl (v_nilCheck rfl) ?_))
  refine s_val rfl (v_fieldAddr rfl Tryz.underlying420 rfl Tryz.sizeOf415 rfl (by first | exact Nat.zero_add _ | rfl)) ?_
  refine s_val rfl (v_load Tryz.isAgg415 rfl (cell_own rfl)) ?_
  refine s_val rfl (v_move rfl) ?_
  refine s_val rfl (v_idx Tryz.underlying415 Tryz.sizeOf422 rfl rfl rfl hf (by first | exact Nat.zero_add _ | rfl)) ?_
  refine s_val rfl (v_fieldAddr rfl Tryz.underlying422 rfl Tryz.sizeOf4 rfl (by first | exact Nat.zero_add _ | rfl)) ?_
  refine s_do0 (d_store Tryz.sizeOf4 rfl rfl rfl (by rw [List.length_append, st_len]; omega) (st_set1 po sp f false hf)) ?_
  rintro _ _ rfl
  refine x_nil (n_then (x_seq ?_))
  rw [hset]
  refine run_ent (B := pt g (cob ((po.set f ((w : Int), false)).flatMap stV ++ sp) 422) :: lfH w pb (Ls.getD w [], poCs ps (.slice (some ⟨g, 0, none⟩) po.length c) vs) :: kH 3 (grp (((vs.zip Ls).map lfS).eraseIdx w)) :: stoH ps fr :: R) ?_ ?_
  · refine Ent.cons ?_
    exact ent_rowOut hw hv hL.len
  have hg0 : ((po.set f ((w : Int), false)).flatMap stV ++ sp)[f * 2 + 0]? = some (.int .i64 ((w : Nat) : Int)) := by
    rw [st_get _ _ _ _ (by rw [List.length_set]; exact hf) (by decide), poA_set hf, if_pos rfl]; rfl
  have hgl : ((po.set f ((w : Int), false)).flatMap stV ++ sp).length = c * 2 := by
    rw [List.length_append, st_len, List.length_set] at *; omega
  refine x_draw [(pb, 1, [.slice (some ⟨g, 0, none⟩) po.length c]), (g, 0, _)] 16 mixed rfl (sc_cons (cells_rw1 (T := 420) (E := 3) (sz := 1) (f := nV1) (o := 2 + w * 1) (by omega) rfl) (sc_own sc_end)) (fun hS => ?_)
  refine d_take 0 rfl rfl (by kernel_rfl) (by kernel_rfl) (by kernel_rfl) rfl hS (v_move rfl) ?_
  refine d_take 1 rfl rfl (by kernel_rfl) (by kernel_rfl) (by kernel_rfl) rfl hS (v_move rfl) ?_
  refine d_take 2 rfl rfl (by kernel_rfl) (by kernel_rfl) (by kernel_rfl) rfl hS (v_nilCheck rfl) ?_
  refine d_take 3 rfl rfl (by kernel_rfl) (by kernel_rfl) (by kernel_rfl) rfl hS (v_fieldAddr rfl Tryz.underlying420 rfl Tryz.sizeOf415 rfl (by first | exact Nat.zero_add _ | rfl)) ?_
  refine d_take 4 rfl rfl (by kernel_rfl) (by kernel_rfl) (by kernel_rfl) rfl hS (v_load Tryz.isAgg415 rfl (cell_sc (k := 0) (j := 0) rfl rfl)) ?_
  refine d_take 5 rfl rfl (by kernel_rfl) (by kernel_rfl) (by kernel_rfl) rfl hS (v_move rfl) ?_
  refine d_take 6 rfl rfl (by kernel_rfl) (by kernel_rfl) (by kernel_rfl) rfl hS (v_idx Tryz.underlying415 Tryz.sizeOf422 rfl rfl rfl hf (by first | exact Nat.zero_add _ | rfl)) ?_
  refine d_take 7 rfl rfl (by kernel_rfl) (by kernel_rfl) (by kernel_rfl) rfl hS (v_fieldAddr rfl Tryz.underlying422 rfl Tryz.sizeOf3 rfl (by first | exact Nat.zero_add _ | rfl)) ?_
  refine d_take 8 rfl rfl (by kernel_rfl) (by kernel_rfl) (by kernel_rfl) rfl hS (v_load Tryz.isAgg3 rfl (cell_sc0 (k := 1) rfl hg0)) ?_
  refine d_take 9 rfl rfl (by kernel_rfl) (by kernel_rfl) (by kernel_rfl) rfl hS (v_nilCheck rfl) ?_
  refine d_take 10 rfl rfl (by kernel_rfl) (by kernel_rfl) (by kernel_rfl) rfl hS (v_fieldAddr rfl Tryz.underlying420 rfl Tryz.sizeOf418 rfl (by first | exact Nat.zero_add _ | rfl)) ?_
  refine d_take 11 rfl rfl (by kernel_rfl) (by kernel_rfl) (by kernel_rfl) rfl hS (v_idxArr Tryz.underlying418 Tryz.sizeOf417 rfl rfl rfl hw (by first | exact Nat.zero_add _ | rfl)) ?_
  refine d_take 12 rfl rfl (by kernel_rfl) (by kernel_rfl) (by kernel_rfl) rfl hS (v_mkI Tryz.underlying454 (fun _ h => nomatch h) rfl) ?_
  refine d_take 13 rfl rfl (by kernel_rfl) (by kernel_rfl) (by kernel_rfl) rfl hS (v_move rfl) ?_
  refine d_take 14 rfl rfl (by kernel_rfl) (by kernel_rfl) (by kernel_rfl) rfl hS (v_mkI Tryz.underlying3 (fun _ h => nomatch h) rfl) ?_
  refine d_one 15 (by kernel_rfl) rfl rfl (d_call1 Tryz.call176 rfl (poPush_spec W0 _ pb w (Ls.getD w []) f (poCs ps (.slice (some ⟨g, 0, none⟩) po.length c) vs) (by omega) hrow.2)) rfl ?_; clear hS
  rintro _ _ ⟨rfl, l', rfl, hp, hh⟩
  refine ⟨(sc_cons (cells_rw1 (T := 420) (E := 3) (sz := 1) (f := nV1) (o := 2 + w * 1) (by omega) rfl) (sc_own sc_end)), fun hS => ?_⟩
  refine d_done (by kernel_rfl) ?_; clear hS
  refine n_then (x_seq ?_)
  refine run_ent (B := poH pb (ps, po.set f ((w : Int), false)) :: stoH ps fr :: R) ?_ ?_
  · have e := ent_osl (E := 422) (sz := 2) (g := g) (n := po.length) (cap := c) (xs := (po.set f ((w : Int), false)).flatMap stV) (sp := sp) (A := pt g (cob ((po.set f ((w : Int), false)).flatMap stV ++ sp) 422) :: kH 3 (grp (((vs.zip Ls).map lfS).eraseIdx w)) :: stoH ps fr :: R) (B := kH 3 (grp (((vs.zip Ls).map lfS).eraseIdx w)) :: stoH ps fr :: R) h2 h3 (by rw [st_len, List.length_set]) hgl
    refine (Ent.cons e).trans ?_
    exact ent_rowIn hw hv rfl (by simp) hL.len (hL.set hw (hp.trans ((hrow.1.append_right [f]).trans hown)) hh hoth)
  refine run_po (pb := pb) fun a2 c2 vs2 Ls2 hv2 hL2 => ?_
  refine x_region (s_val rfl (v_move rfl) (s_val rfl (v_nilCheck rfl) ?_))
  refine s_val rfl (v_fieldAddr rfl Tryz.underlying420 rfl Tryz.sizeOf63 rfl (by first | exact Nat.zero_add _ | rfl)) ?_
  refine s_val rfl (v_load Tryz.isAgg63 rfl (cell_own rfl)) ?_
  refine s_val rfl (v_move rfl) (s_do rfl (d_call1 Tryz.call339 rfl (frClear_spec W0 _ ps fr f hff)) ?_)
  rintro _ B_ ⟨rfl, hB_⟩
  obtain rfl := hB_.symm
  refine s_val rfl (v_assign rfl) (x_nil (n_then (x_ret (x_done (.inl rfl) (.cons (r_tmp rfl) .nil) ?_))))
  exact ⟨_, ⟨rfl, rfl⟩, ent_po rfl hv2 hL2 (by simp) rfl⟩
theorem poOwn_spec (W0 : World) (R : List HP) (pb ps : Nat) (po : Po) (fr : List Frm) (f w : Nat) (hf : f < po.length) (hff : f < fr.length) (hw : w < 16) (hP : PoOk po) (ha : poA po f = (-1, false)) :
    Spec Tryz.prog W0 123 [.pointer (some ⟨pb, 0, none⟩), .int .i64 f, .int .i64 w] (poH pb (ps, po) :: stoH ps fr :: R)
      (fun v B => v = .int .i64 0 ∧ B = poH pb (ps, po.set f ((w : Int), false)) :: stoH ps (fr.set f zeros) :: R) := by
  have hi : isF po.length f = true := by simp only [isF, decide_eq_true_eq]; omega
  have hw' : isW w = true := by simp only [isW, decide_eq_true_eq]; omega
  have h0 : po.set f (-1, false) = po := by
    have : poA po f = po[f] := by simp [poA, List.getD, hf]
    rw [← ha, this]; exact List.set_getElem_self _
  refine spec_body Tryz.func123 Tryz.ntmps123 rfl rfl ?_
  refine x_seq (x_region (s_val rfl (v_assign rfl) (x_nil (n_then (x_seq (x_block (x_seq (x_region (s_val rfl (v_move rfl) ?_)))))))))
  refine s_do rfl (d_call1 Tryz.call257 rfl (poNone_spec W0 _ pb ps po (by omega))) ?_
  rintro _ B_ ⟨rfl, hB_⟩
  obtain rfl := hB_.symm
  refine s_val rfl (v_assign rfl) (x_nil (n_then ?_))
  refine x_if rfl ?_ ?_
  · intro c1
    exact absurd c1 (by decide)
  · intro c1
    refine x_seq (x_seq (x_region (s_val rfl (v_move rfl) (s_val rfl (v_move rfl) (s_do rfl (d_call1 Tryz.call258 rfl (poIs_spec W0 _ pb ps po f)) ?_)))))
    rintro _ B_ ⟨rfl, hB_⟩
    obtain rfl := hB_.symm
    refine s_val rfl (v_not rfl) (s_val rfl (v_assign rfl) (x_nil (n_then ?_)))
    refine x_if rfl ?_ ?_
    · intro c3
      exact absurd c3 (by simp [hi])
    · intro c3
      refine x_region (s_val rfl (v_move rfl) (s_do rfl (d_call Tryz.call259 rfl (poPart_spec W0 _ w)) ?_))
      rintro _ B_ ⟨rfl, hB_⟩
      obtain rfl := hB_.symm
      refine s_val rfl (v_not rfl) (s_val rfl (v_assign rfl) (x_nil (n_then ?_)))
      refine x_if rfl ?_ ?_
      · intro c4
        exact absurd c4 (by simp [hw'])
      · intro c4
        refine x_seq ?_
        refine run_po (pb := pb) fun a c vs Ls hv hL => ?_
        refine run_tk (r := osl 422 2) (b := .slice a po.length c) (run_osl (fun h1 h2 => by have := congrArg List.length h2; rw [st_len] at this; simp at this; omega) fun g n cap sp h1 h2 h3 h4 h5 => ?_)
        cases h1
        refine x_region (s_val rfl (v_move rfl) (s_val rfl (v_nilCheck rfl) ?_))
        refine s_val rfl (v_fieldAddr rfl Tryz.underlying420 rfl Tryz.sizeOf415 rfl (by first | exact Nat.zero_add _ | rfl)) ?_
        refine s_val rfl (v_load Tryz.isAgg415 rfl (cell_own rfl)) ?_
        refine s_val rfl (v_move rfl) ?_
        refine s_val rfl (v_idx Tryz.underlying415 Tryz.sizeOf422 rfl rfl rfl hf (by first | exact Nat.zero_add _ | rfl)) ?_
        refine s_val rfl (v_fieldAddr rfl Tryz.underlying422 rfl Tryz.sizeOf3 rfl (by first | exact Nat.zero_add _ | rfl)) ?_
        refine s_val rfl (v_load Tryz.isAgg3 rfl (cell_own ((st_get po sp f 0 hf (by decide)).trans (by rw [ha]; rfl)))) ?_
        refine s_val rfl (v_neq rfl rfl) (s_val rfl (v_assign rfl) (x_nil (n_then ?_)))
        refine x_if rfl ?_ ?_
        · intro c6
          exact absurd c6 (by decide)
        · intro c6
          refine x_skip (n_block (n_then (x_seq (x_region (s_val rfl (v_move rfl) (s_val rfl (v_nilCheck rfl) ?_))))))
          refine s_val rfl (v_fieldAddr rfl Tryz.underlying420 rfl Tryz.sizeOf415 rfl (by first | exact Nat.zero_add _ | rfl)) ?_
          refine s_val rfl (v_load Tryz.isAgg415 rfl (cell_own rfl)) ?_
          refine s_val rfl (v_move rfl) (s_val rfl (v_move rfl) ?_)
          refine s_val rfl (v_idx Tryz.underlying415 Tryz.sizeOf422 rfl rfl rfl hf (by first | exact Nat.zero_add _ | rfl)) ?_
          refine s_val rfl (v_fieldAddr rfl Tryz.underlying422 rfl Tryz.sizeOf3 rfl (by first | exact Nat.zero_add _ | rfl)) ?_
          refine s_do0 (d_store Tryz.sizeOf3 rfl rfl rfl (by rw [List.length_append, st_len]; omega) (st_set0 po sp f (w : Int) hf)) ?_
          rintro _ _ rfl
          refine x_nil (n_then (x_seq ?_))
          rw [ha]
          refine run_ent (B := pt pb (cob (poCs ps (.slice (some ⟨g, 0, none⟩) (po.set f ((w : Int), false)).length c) vs) 420) :: osl 422 2 (.slice (some ⟨g, 0, none⟩) (po.set f ((w : Int), false)).length c) ((po.set f ((w : Int), false)).flatMap stV) :: kH 2 (grp ((vs.zip Ls).map lfS)) :: stoH ps fr :: R) ?_ ?_
          · rw [List.length_set]
            have e := ent_osl (E := 422) (sz := 2) (g := g) (n := po.length) (cap := c) (xs := (po.set f ((w : Int), false)).flatMap stV) (sp := sp) (A := pt g (cob ((po.set f ((w : Int), false)).flatMap stV ++ sp) 422) :: kH 2 (grp ((vs.zip Ls).map lfS)) :: stoH ps fr :: R) (B := kH 2 (grp ((vs.zip Ls).map lfS)) :: stoH ps fr :: R) h2 h3 (by rw [st_len, List.length_set]) (by rw [List.length_append, st_len] at h5 ⊢; rw [List.length_set]; exact h5)
            exact (inferInstance : Ent _ (pt pb (cob (poCs ps (.slice (some ⟨g, 0, none⟩) po.length c) vs) 420) :: pt g (cob ((po.set f ((w : Int), false)).flatMap stV ++ sp) 422) :: kH 2 (grp ((vs.zip Ls).map lfS)) :: stoH ps fr :: R)).trans (Ent.cons e)
          refine x_region (s_val rfl (v_move rfl) (s_val rfl (v_move rfl) ?_))
          refine s_do rfl (d_call4 Tryz.call260 rfl (poPut_spec W0 _ pb ps (po.set f ((w : Int), false)) fr f w false (by rw [List.length_set]; exact hf) hff hw (hP.set hf (by simp) (by simp; omega)) (by rw [poA_set hf, if_pos rfl]) (some ⟨g, 0, none⟩) c vs Ls hv (by rw [List.set_set, h0]; exact hL))) ?_
          rintro _ B_ ⟨rfl, hB_⟩
          obtain rfl := hB_.symm
          refine s_val rfl (v_assign rfl) (x_nil (n_then (x_ret (x_done (.inl rfl) (.cons (r_tmp rfl) .nil) ?_))))
          rw [List.set_set]
          exact ⟨_, ⟨rfl, rfl⟩, inferInstance⟩
theorem poLeft_spec (W0 : World) (R : List HP) (pb ps : Nat) (po : Po) (w : Nat) (h0 : 0 < po.length) (hw : w < 16) :
    Spec Tryz.prog W0 298 [.pointer (some ⟨pb, 0, none⟩), .int .i64 w] (poH pb (ps, po) :: R) (fun v B => v = .int .i64 ((fre po w).length : Nat) ∧ B = poH pb (ps, po) :: R) := by
  have hw' : isW w = true := by simp only [isW, decide_eq_true_eq]; omega
  refine spec_body Tryz.func298 Tryz.ntmps298 rfl rfl ?_
  refine x_seq (x_region (s_val rfl (v_assign rfl) (x_nil (n_then (x_seq (x_seq (x_region (s_val rfl (v_move rfl) (s_do rfl (d_call1 Tryz.call257 rfl (poNone_spec W0 _ pb ps po h0)) ?_)))))))))
  rintro _ B_ ⟨rfl, hB_⟩
  obtain rfl := hB_.symm
  refine s_val rfl (v_move rfl) ?_
  refine s_or rfl rfl rfl ?_ ?_
  · intro g1_3
    exact absurd g1_3 (by decide)
  · intro g1_3
    refine s_val rfl (v_move rfl) (s_yes rfl rfl (s_do rfl (d_call Tryz.call259 rfl (poPart_spec W0 _ w)) ?_))
    rintro _ B_ ⟨rfl, hB_⟩
    obtain rfl := hB_.symm
    refine s_yes rfl rfl (s_val rfl (v_not rfl) (s_val rfl (v_pick_f rfl rfl) (x_nil (n_then ?_))))
    refine x_if rfl ?_ ?_
    · intro c1
      exact absurd c1 (by simp [hw'])
    · intro c1
      refine x_skip (n_then (x_seq ?_))
      refine run_po (pb := pb) fun a c vs Ls hv hL => ?_
      have hrow := hL.row w hw
      refine run_ent (B := lfH w pb (Ls.getD w [], poCs ps (.slice a po.length c) vs) :: kH 3 (grp (((vs.zip Ls).map lfS).eraseIdx w)) :: osl 422 2 (.slice a po.length c) (po.flatMap stV) :: R) ?_ ?_
      · exact (Ent.cons (Ent.ofPerm (List.Perm.swap _ _ _))).trans (ent_rowOut hw hv hL.len)
      refine x_region (s_val rfl (v_move rfl) (s_val rfl (v_move rfl) (s_val rfl (v_nilCheck rfl) ?_)))
      refine s_val rfl (v_fieldAddr rfl Tryz.underlying420 rfl Tryz.sizeOf418 rfl (by first | exact Nat.zero_add _ | rfl)) ?_
      refine s_val rfl (v_idxArr Tryz.underlying418 Tryz.sizeOf417 rfl rfl rfl hw (by first | exact Nat.zero_add _ | rfl)) ?_
      refine s_do rfl (d_call1 Tryz.call299 rfl (lfLen_spec W0 _ pb w (Ls.getD w []) (poCs ps (.slice a po.length c) vs))) ?_
      rintro _ B_ ⟨rfl, hB_⟩
      obtain rfl := hB_.symm
      refine s_val rfl (v_assign rfl) (x_nil (n_then (x_ret (x_done (.inl rfl) (.cons (r_tmp rfl) .nil) ?_))))
      rw [hrow.1.length_eq]
      have hLs : Ls.set w (Ls.getD w []) = Ls := by
        rw [show Ls.getD w [] = Ls[w]'(by rw [hL.len]; exact hw) by simp [List.getD, hL.len, hw]]; exact List.set_getElem_self _
      refine ⟨_, ⟨rfl, rfl⟩, ?_⟩
      exact (Ent.cons (Ent.ofPerm (List.Perm.swap _ _ _))).trans (ent_rowIn hw hv rfl rfl hL.len (by rw [hLs]; exact hL))
theorem poTake_spec (W0 : World) (R : List HP) (pb ps : Nat) (po : Po) (w f : Nat) (l : List Nat) (hw : w < 16) (hP : PoOk po) (he : fre po w = f :: l) :
    Spec Tryz.prog W0 202 [.pointer (some ⟨pb, 0, none⟩), .int .i64 w] (poH pb (ps, po) :: R)
      (fun v B => v = .tuple #[.int .i64 f, .int .i64 0] ∧ B = poH pb (ps, po.set f ((w : Int), true)) :: R) := by
  have hw' : isW w = true := by simp only [isW, decide_eq_true_eq]; omega
  have hf := mem_fre.1 (show f ∈ fre po w by rw [he]; simp)
  refine spec_body Tryz.func202 Tryz.ntmps202 rfl rfl ?_
  refine x_seq (x_region (s_val rfl (v_assign rfl) (s_val rfl (v_assign rfl) (x_nil (n_then (x_seq (x_block (x_seq (x_region (s_val rfl (v_move rfl) ?_))))))))))
  refine s_do rfl (d_call1 Tryz.call257 rfl (poNone_spec W0 _ pb ps po (by omega))) ?_
  rintro _ B_ ⟨rfl, hB_⟩
  obtain rfl := hB_.symm
  refine s_val rfl (v_assign rfl) (x_nil (n_then ?_))
  refine x_if rfl ?_ ?_
  · intro c1
    exact absurd c1 (by decide)
  · intro c1
    refine x_seq (x_region (s_val rfl (v_move rfl) (s_do rfl (d_call Tryz.call259 rfl (poPart_spec W0 _ w)) ?_)))
    rintro _ B_ ⟨rfl, hB_⟩
    obtain rfl := hB_.symm
    refine s_val rfl (v_not rfl) (s_val rfl (v_assign rfl) (x_nil (n_then ?_)))
    refine x_if rfl ?_ ?_
    · intro c3
      exact absurd c3 (by simp [hw'])
    · intro c3
      refine x_seq ?_
      refine run_po (pb := pb) fun a c vs Ls hv hL => ?_
      have hrow := hL.row w hw
      have hrl := hL.rlen hP hw
      refine run_ent (B := lfH w pb (Ls.getD w [], poCs ps (.slice a po.length c) vs) :: kH 3 (grp (((vs.zip Ls).map lfS).eraseIdx w)) :: osl 422 2 (.slice a po.length c) (po.flatMap stV) :: R) ?_ ?_
      · exact (Ent.cons (Ent.ofPerm (List.Perm.swap _ _ _))).trans (ent_rowOut hw hv hL.len)
      refine x_region (s_val rfl (v_move rfl) (s_val rfl (v_move rfl) (s_val rfl (v_nilCheck rfl) ?_)))
      refine s_val rfl (v_fieldAddr rfl Tryz.underlying420 rfl Tryz.sizeOf418 rfl (by first | exact Nat.zero_add _ | rfl)) ?_
      refine s_val rfl (v_idxArr Tryz.underlying418 Tryz.sizeOf417 rfl rfl rfl hw (by first | exact Nat.zero_add _ | rfl)) ?_
      refine s_do rfl (d_call1 Tryz.call299 rfl (lfLen_spec W0 _ pb w (Ls.getD w []) (poCs ps (.slice a po.length c) vs))) ?_
      rintro _ B_ ⟨rfl, hB_⟩
      obtain rfl := hB_.symm
      refine s_val rfl (v_eql rfl rfl) (s_val rfl (v_assign rfl) (x_nil (n_then ?_)))
      refine x_if rfl ?_ ?_
      · intro c5
        exact absurd c5 (by rw [hrow.1.length_eq, he, List.length_cons]; omega)
      · intro c5
        refine x_skip (n_block (n_then (x_seq (x_region (s_val rfl (v_move rfl) (s_val rfl (v_move rfl) (s_val rfl (v_nilCheck rfl) ?_)))))))
        refine s_val rfl (v_fieldAddr rfl Tryz.underlying420 rfl Tryz.sizeOf418 rfl (by first | exact Nat.zero_add _ | rfl)) ?_
        refine s_val rfl (v_idxArr Tryz.underlying418 Tryz.sizeOf417 rfl rfl rfl hw (by first | exact Nat.zero_add _ | rfl)) ?_
        refine s_val rfl (v_mkI Tryz.underlying454 (fun _ h => nomatch h) rfl) ?_
        refine s_do rfl (d_call1 Tryz.call300 rfl (poPop_spec W0 _ pb w (Ls.getD w []) (poCs ps (.slice a po.length c) vs) (by omega) (fun e => by rw [e] at hrow; have := hrow.1.length_eq; rw [he] at this; simp at this) hrow.2)) ?_
        rintro _ _ ⟨x, l', rfl, rfl, hp, hh, hm⟩
        have hpp := hp.trans hrow.1
        have hmm : ∀ y ∈ fre po w, x ≤ y := fun y hy => by have := hm y (hrow.1.mem_iff.2 hy); omega
        have hx := fre_min hpp hmm
        have hr := fre_rest hpp hmm
        rw [he] at hx
        obtain ⟨rfl, _⟩ := List.cons.inj hx
        have hk : LsOk (po.set f ((w : Int), true)) (Ls.set w l') := hL.set hw hr hh fun u hu hne => fre_other hf.1 (by rw [hf.2]; intro e; have := (Prod.mk.inj e).1; omega) (by intro e; have := (Prod.mk.inj e).2; cases this)
        refine s_val rfl (v_assert Tryz.underlying3 (fun _ h => nomatch h) rfl) ?_
        refine s_val rfl (v_assign rfl) (x_nil (n_then (x_seq ?_)))
        refine run_tk (r := osl 422 2) (b := .slice a po.length c) (run_osl (fun h1 h2 => by have := congrArg List.length h2; rw [st_len] at this; simp at this; omega) fun g n cap sp h1 h2 h3 h4 h5 => ?_)
        cases h1
        refine x_region (s_val rfl (v_move rfl) (s_val rfl (v_nilCheck rfl) ?_))
        refine s_val rfl (v_fieldAddr rfl Tryz.underlying420 rfl Tryz.sizeOf415 rfl (by first | exact Nat.zero_add _ | rfl)) ?_
        refine s_val rfl (v_load Tryz.isAgg415 rfl (cell_rw (T := 420) (E := 3) (sz := 1) (f := nV1) (o := 2 + w * 1) (by omega) rfl)) ?_
        refine s_val rfl (v_move rfl) ?_
        refine s_val rfl (v_idx Tryz.underlying415 Tryz.sizeOf422 rfl rfl rfl hf.1 (by first | exact Nat.zero_add _ | rfl)) ?_
        refine s_val rfl (v_fieldAddr rfl Tryz.underlying422 rfl Tryz.sizeOf4 rfl (by first | exact Nat.zero_add _ | rfl)) ?_
        refine s_do0 (d_store Tryz.sizeOf4 rfl rfl rfl (by rw [List.length_append, st_len]; omega) (st_set1 po sp f true hf.1)) ?_
        rintro _ _ rfl
        refine x_nil (n_then (x_seq (x_region (s_val rfl (v_move rfl) (s_val rfl (v_assign rfl) (s_val rfl (v_assign rfl) (x_nil (n_then (x_ret (x_done (.inl rfl) (.cons (r_tmp rfl) (.cons (r_tmp rfl) .nil)) ?_))))))))))
        rw [hf.2]
        refine ⟨_, ⟨rfl, rfl⟩, ?_⟩
        have e := ent_osl (E := 422) (sz := 2) (g := g) (n := po.length) (cap := c) (xs := (po.set f ((w : Int), true)).flatMap stV) (sp := sp) (A := pt g (cob ((po.set f ((w : Int), true)).flatMap stV ++ sp) 422) :: kH 3 (grp (((vs.zip Ls).map lfS).eraseIdx w)) :: R) (B := kH 3 (grp (((vs.zip Ls).map lfS).eraseIdx w)) :: R) h2 h3 (by rw [st_len, List.length_set]) (by rw [List.length_append, st_len] at h5 ⊢; rw [List.length_set]; exact h5)
        exact (inferInstance : Ent _ (lfH w pb (l', poCs ps (.slice (some ⟨g, 0, none⟩) po.length c) vs) :: pt g (cob ((po.set f ((w : Int), true)).flatMap stV ++ sp) 422) :: kH 3 (grp (((vs.zip Ls).map lfS).eraseIdx w)) :: R)).trans ((Ent.cons e).trans (ent_rowIn hw hv rfl (by simp) hL.len hk))
end Go.Proofs.YtnidndllknffgaaGreat
namespace Go.Proofs.YtnidndllknffgaaGreat
open Go.RowKit
set_option linter.unusedSimpArgs false
set_option linter.unusedVariables false
set_option maxRecDepth 20000
def wV (w : Nat) : Value := .int .u32 (w : Int)
def wdAt (l : List Nat) (i : Nat) : Nat := leN ((l.drop (4 * i)).take 4)
structure Dsc where
  addr : Nat
  len : Nat
  flags : Nat
  next : Nat
structure Dsc.ok (d : Dsc) : Prop where
  addr : d.addr < 4294967296
  len : d.len < 4294967296
  flags : d.flags < 4294967296
  next : d.next < 4294967296
def dsOf (l : List Nat) : Dsc := ⟨wdAt l 0, wdAt l 1, wdAt l 2, wdAt l 3⟩
def zD : Dsc := ⟨0, 0, 0, 0⟩
def chkC (d : Dsc) (n : Nat) : Int := if 4 ≤ d.flags then 3 else if 64 < d.len then 4 else if d.flags % 2 = 1 ∧ n ≤ d.next then 1 else 0
structure Rg3 where
  desc : Nat
  avail : Nat
  used : Nat
  n : Int
structure Rg3.ok (r : Rg3) : Prop where
  desc : r.desc < 4294967296
  avail : r.avail < 4294967296
  used : r.used < 4294967296
end Go.Proofs.YtnidndllknffgaaGreat
namespace Go.Proofs.YtnidndllknffgaaGreat
open Go.RowKit
set_option linter.unusedSimpArgs false
set_option linter.unusedVariables false
set_option maxRecDepth 20000
end Go.Proofs.YtnidndllknffgaaGreat
namespace Go.Proofs.YtnidndllknffgaaGreat
open Go.RowKit
set_option linter.unusedSimpArgs false
set_option linter.unusedVariables false
set_option maxRecDepth 20000
def gsV (x : Int × Int × Int) : List Value := [.int .i64 x.1, .int .i64 x.2.1, .int .i64 x.2.2]
end Go.Proofs.YtnidndllknffgaaGreat
namespace Go.Proofs.YtnidndllknffgaaGreat
open Go.RowKit
set_option linter.unusedSimpArgs false
set_option linter.unusedVariables false
set_option maxRecDepth 20000
structure WF (W0 : World) (fn : FuncId) (cs : List Value) (n : Nat) (C : Nat → HP) (w : Nat → Bool) : Prop where
  call : ∀ args u, (callFunc fn args).run Tryz.prog u = .ok (.enter fn args) u
  spec : ∀ i, i < n → ∀ R, Spec Tryz.prog W0 fn ([] ++ [.int .i64 (i : Int)] ++ cs) (kH 0 (C i) :: R) (fun v B => v = .bool (w i) ∧ B = kH 0 (C (i + 1)) :: R)
def anyW (w : Nat → Bool) (n : Nat) : Bool := (List.range n).any w
theorem anyW_yes {w : Nat → Bool} {n i : Nat} (hi : i < n) (h : w i = true) : anyW w n = true := List.any_eq_true.2 ⟨i, List.mem_range.2 hi, h⟩
theorem anyW_no {w : Nat → Bool} {n : Nat} (h : ∀ i, i < n → w i = false) : anyW w n = false := by
  rw [← Bool.not_eq_true]; intro q
  obtain ⟨i, hi, hw⟩ := List.any_eq_true.1 q
  rw [h i (List.mem_range.1 hi)] at hw; cases hw
def fsO (w : Nat → Bool) (n : Nat) : Option Nat := (List.range n).find? w
theorem fsO_any (w : Nat → Bool) (n : Nat) : (fsO w n).isSome = anyW w n := by
  rw [Bool.eq_iff_iff, fsO, List.find?_isSome, anyW, List.any_eq_true]
theorem fsO_at {w : Nat → Bool} {n i : Nat} (hi : i < n) (h : w i = true) (hj : ∀ j, j < i → w j = false) : fsO w n = some i := by
  rw [fsO, List.find?_eq_some_iff_getElem]
  exact ⟨h, i, by simpa using hi, by simp, fun j h2 => by simp [hj j h2]⟩
theorem fsO_none {w : Nat → Bool} {n : Nat} (h : ∀ i, i < n → w i = false) : fsO w n = none := by
  rw [fsO, List.find?_eq_none]
  intro i hi; rw [h i (List.mem_range.1 hi)]; decide
theorem cfFirstX_spec (W0 : World) (R : List HP) (fn : FuncId) (cs : List Value) (n : Nat) (C : Nat → HP) (w : Nat → Bool) (hw : WF W0 fn cs n C w) (hn : n ≤ 1000) :
    Spec Tryz.prog W0 127 [.int .i64 (n : Int), .func (.func fn) #[] cs.toArray] (kH 0 (C 0) :: R) (fun v B => v = .tuple #[.int .i64 (((fsO w n).getD 0 : Nat) : Int), .bool (fsO w n).isSome] ∧ B = R) := by
  refine spec_body Tryz.func127 Tryz.ntmps127 rfl rfl ?_
  refine x_seq (x_region (s_val rfl (v_assign rfl) (s_val rfl (v_assign rfl) (x_nil (n_then (x_seq (x_seq (x_region (s_val rfl (v_move rfl) (s_val rfl (v_move rfl) (x_nil (n_then (x_block ?_)))))))))))))
  refine x_loop (fun i : Nat => i ≤ n ∧ ∀ j, j < i → w j = false) (fun i => [(1, .func (.func fn) #[] cs.toArray), (7, .int .i64 (n : Int)), (8, .int .i64 (i : Int))]) (fun i => kH 0 (C i) :: R) (fun i => n - i) 0 ?_ ?_ ?_ ?_
  · exact ⟨Nat.zero_le _, fun j hj => absurd hj (Nat.not_lt_zero _)⟩
  · repeat (first | exact sub_nil | refine sub_cons rfl ?_)
  · exact inferInstance
  · intro i ⟨hi, hj⟩
    refine x_seq (x_region (s_val rfl (v_lss rfl rfl) (x_nil (n_then (x_seq ?_)))))
    refine x_if rfl ?_ ?_
    · intro c2
      refine x_skip (n_then (x_seq (x_block (x_seq (x_region (s_val rfl (v_move rfl) (s_val rfl (v_assign rfl) (x_nil (n_then (x_seq ?_))))))))))
      have hi1 : i < n := by omega
      refine x_region (s_val rfl (v_move rfl) (s_val rfl (v_move rfl) (s_do rfl (d_callv1 (us := []) (cs := cs) rfl hw.call rfl (hw.spec i hi1 _)) ?_)))
      rintro _ B_ ⟨rfl, hB_⟩
      obtain rfl := hB_.symm
      refine x_nil (n_then ?_)
      refine x_if rfl ?_ ?_
      · intro c4
        refine x_seq (x_region (s_val rfl (v_move rfl) (s_val rfl (v_assign rfl) (s_val rfl (v_assign rfl) (x_nil (n_then (x_ret (r_block (r_then (r_then (r_block (r_then (x_done (.inl rfl) (.cons (r_tmp rfl) (.cons (r_tmp rfl) .nil)) ?_)))))))))))))
        rw [fsO_at hi1 c4 hj]
        exact ⟨_, ⟨rfl, rfl⟩, inferInstance⟩
      · intro c4
        refine x_skip (n_block (n_then (x_region ?_)))
        refine s_val rfl (v_add rfl rfl (by first | exact w64 (by omega) | rfl)) ?_
        refine s_val rfl (v_move rfl) (x_nil (n_then ?_))
        refine inv_intro (i + 1) ?_ ?_ ?_ ?_
        · refine ⟨by omega, fun j h => ?_⟩
          rcases Nat.lt_or_ge j i with q | q
          · exact hj j q
          · rw [show j = i by omega]; simpa using c4
        · omega
        · repeat (first | exact sub_nil | refine sub_cons rfl ?_)
        · exact inferInstance
    · intro c2
      refine x_exit (e_then (e_then (e_block (n_then (x_seq (x_region (s_val rfl (v_assign rfl) (s_val rfl (v_assign rfl) (x_nil (n_then (x_ret (x_done (.inl rfl) (.cons (r_tmp rfl) (.cons (r_tmp rfl) .nil)) ?_))))))))))))
      obtain rfl : i = n := by omega
      rw [fsO_none hj]
      exact ⟨_, ⟨rfl, rfl⟩, inferInstance⟩
theorem cfFirst_spec (W0 : World) (R : List HP) (fn : FuncId) (cs : List Value) (n : Nat) (C : Nat → HP) (w : Nat → Bool) (hw : WF W0 fn cs n C w) (hn : n ≤ 1000) :
    Spec Tryz.prog W0 127 [.int .i64 (n : Int), .func (.func fn) #[] cs.toArray] (kH 0 (C 0) :: R) (fun v B => ∃ r, v = .tuple #[.int .i64 r, .bool (anyW w n)] ∧ B = R) :=
  spec_post (cfFirstX_spec W0 R fn cs n C w hw hn) fun v B hB => by
    obtain ⟨rfl, rfl⟩ := hB
    rw [fsO_any]
    exact ⟨_, ⟨_, rfl, rfl⟩, ent_refl⟩
end Go.Proofs.YtnidndllknffgaaGreat
namespace Go.Proofs.YtnidndllknffgaaGreat
open Go.RowKit
set_option linter.unusedSimpArgs false
set_option linter.unusedVariables false
set_option maxRecDepth 20000
def vaL (l cats : Int) : Bool := decide (0 ≤ cats ∧ cats ≤ 8) && isL l && decide (bShr .i64 l cats = 0)
theorem lbValid_spec (W0 : World) (R : List HP) (l cats : Int) : Spec Tryz.prog W0 164 [.int .i64 l, .int .i64 cats] R (fun v B => v = .bool (vaL l cats) ∧ B = R) := by
  refine spec_body Tryz.func164 Tryz.ntmps164 rfl rfl ?_
  refine x_seq (x_region (s_val rfl (v_assign rfl) (x_nil (n_then (x_seq (x_block (x_seq (x_seq (x_region (s_val rfl (v_move rfl) (s_val rfl (v_lss rfl rfl) (s_val rfl (v_assign rfl) (x_nil (n_then ?_))))))))))))))
  refine x_if rfl ?_ ?_
  · intro c1
    refine x_skip (n_then (x_ift rfl (x_seq (x_region (s_val rfl (v_assign rfl) (x_nil (n_then (x_ret (r_block (r_then (x_done (.inl rfl) (.cons (r_tmp rfl) .nil) ?_)))))))))))
    have hv : vaL l cats = false := by
      rw [← Bool.not_eq_true, vaL]; intro q
      simp only [Bool.and_eq_true, decide_eq_true_iff] at q
      first
        | omega
        | (have := q.1.2; simp_all)
    rw [hv]; exact ⟨_, ⟨rfl, rfl⟩, inferInstance⟩
  · intro c1
    refine x_seq (x_region (s_val rfl (v_move rfl) (s_val rfl (v_gtr rfl rfl) (s_val rfl (v_assign rfl) (x_nil (n_then ?_))))))
    refine x_if rfl ?_ ?_
    · intro c2
      refine x_skip (n_then (x_ift rfl (x_seq (x_region (s_val rfl (v_assign rfl) (x_nil (n_then (x_ret (r_block (r_then (x_done (.inl rfl) (.cons (r_tmp rfl) .nil) ?_)))))))))))
      have hv : vaL l cats = false := by
        rw [← Bool.not_eq_true, vaL]; intro q
        simp only [Bool.and_eq_true, decide_eq_true_iff] at q
        first
          | omega
          | (have := q.1.2; simp_all)
      rw [hv]; exact ⟨_, ⟨rfl, rfl⟩, inferInstance⟩
    · intro c2
      refine x_region (s_val rfl (v_move rfl) (s_do rfl (d_call Tryz.call264 rfl (lbIs_spec W0 _ l)) ?_))
      rintro _ B_ ⟨rfl, hB_⟩
      obtain rfl := hB_.symm
      refine s_val rfl (v_not rfl) (s_val rfl (v_assign rfl) (x_nil (n_then ?_)))
      refine x_if rfl ?_ ?_
      · intro c3
        refine x_seq (x_region (s_val rfl (v_assign rfl) (x_nil (n_then (x_ret (r_block (r_then (x_done (.inl rfl) (.cons (r_tmp rfl) .nil) ?_))))))))
        have hv : vaL l cats = false := by
          rw [← Bool.not_eq_true, vaL]; intro q
          simp only [Bool.and_eq_true, decide_eq_true_iff] at q
          first
            | omega
            | (have := q.1.2; simp_all)
        rw [hv]; exact ⟨_, ⟨rfl, rfl⟩, inferInstance⟩
      · intro c3
        refine x_skip (n_block (n_then (x_seq (x_region (s_val rfl (v_move rfl) (s_val rfl (v_move rfl) ?_))))))
        refine s_val rfl (v_shr rfl rfl (by omega) rfl) ?_
        refine s_val rfl (v_eql rfl rfl) (s_val rfl (v_assign rfl) (x_nil (n_then (x_ret (x_done (.inl rfl) (.cons (r_tmp rfl) .nil) ?_)))))
        refine ⟨_, ⟨?_, rfl⟩, inferInstance⟩
        refine congrArg Value.bool ?_
        rw [Bool.eq_iff_iff, vaL]
        simp only [Bool.and_eq_true, decide_eq_true_iff]
        constructor
        · intro q
          refine ⟨⟨by omega, by simp_all⟩, by simpa using q⟩
        · intro q
          simpa using q.2
structure Cfg where
  cats : Int
  ga : Option Addr
  gc : Nat
  gl : List (Int × Int × Int)
  ra : Option Addr
  rc : Nat
  rl : List (Int × Int × Int)
  pa : Option Addr
  pc : Nat
  pl : List (Int × Int)
  na : Option Addr
  nc : Nat
  nl : List (Int × Int)
  sa : Option Addr
  sc : Nat
  sl : List (Int × Int)
  gate : Int
  quota : Int
@[reducible] def cfgV (c : Cfg) : List Value := [.int .i64 c.cats, .slice c.ga c.gl.length c.gc, .slice c.ra c.rl.length c.rc, .slice c.pa c.pl.length c.pc, .slice c.na c.nl.length c.nc, .slice c.sa c.sl.length c.sc, .int .i64 c.gate, .int .i64 c.quota]
def gstW (cats : Int) (g : Int × Int × Int) : Bool := !(vaL g.1 cats && decide (1 ≤ g.2.1 ∧ g.2.1 ≤ 8 ∧ 0 ≤ g.2.2 ∧ g.2.2 ≤ 8 - g.2.1))
theorem gstW_no {cats : Int} {g : Int × Int × Int} : gstW cats g = false ↔ vaL g.1 cats = true ∧ 1 ≤ g.2.1 ∧ g.2.1 ≤ 8 ∧ 0 ≤ g.2.2 ∧ g.2.2 ≤ 8 - g.2.1 := by
  rw [gstW]; simp only [Bool.not_eq_false', Bool.and_eq_true, decide_eq_true_iff]
theorem gstW_yes {cats : Int} {g : Int × Int × Int} (h : ¬ (vaL g.1 cats = true ∧ 1 ≤ g.2.1 ∧ g.2.1 ≤ 8 ∧ 0 ≤ g.2.2 ∧ g.2.2 ≤ 8 - g.2.1)) : gstW cats g = true := by
  rw [← Bool.not_eq_false, gstW_no]; exact h
theorem guests1_wf (W0 : World) (b1 : Nat) (c : Cfg) (hs : ∀ A, SlA (OwnP W0 A) c.ga 3 gsV c.gl) :
    WF W0 246 [.pointer (some ⟨b1, 0, none⟩)] c.gl.length (fun _ => grp [pt b1 (cob (cfgV c) 29)]) (fun i => gstW c.cats (c.gl.getD i (0, 0, 0))) := ⟨Tryz.call246, fun i hi R => by
  refine spec_kgrp ?_
  simp only [List.cons_append, List.nil_append]
  obtain ⟨cats, ga, gc, gl, ra, rc, rl, pa, pc, pl, na, nc, nl, sa, sc, sl, gate, quota⟩ := c
  dsimp only at hs hi ⊢
  obtain ⟨g, o, rfl, hc⟩ := (hs (pt b1 (cob (cfgV ⟨cats, ga, gc, gl, ra, rc, rl, pa, pc, pl, na, nc, nl, sa, sc, sl, gate, quota⟩) 29) :: R)).at_ hi
  obtain ⟨x, hx⟩ : ∃ x, gl[i] = x := ⟨_, rfl⟩
  rw [show gl.getD i (0, 0, 0) = x by simp [List.getD, hi, hx]]
  rw [hx] at hc
  refine spec_body Tryz.func246 Tryz.ntmps246 rfl rfl ?_
  refine x_seq (x_region (s_val rfl (v_assign rfl) (x_nil (n_then (x_seq (x_region ?_))))))
  refine s_val rfl (v_fieldAddr rfl Tryz.underlying29 rfl Tryz.sizeOf23 rfl (by first | exact Nat.zero_add _ | rfl)) ?_
  refine s_val rfl (v_load Tryz.isAgg23 rfl (cell_own rfl)) ?_
  refine s_val rfl (v_move rfl) ?_
  refine s_val rfl (v_idx Tryz.underlying23 Tryz.sizeOf85 rfl rfl rfl hi (by first | exact Nat.zero_add _ | rfl)) ?_
  refine s_val rfl (v_loadAgg Tryz.isAgg85 Tryz.sizeOf85 rfl hc.weak rfl) ?_
  refine s_do rfl (d_allocA Tryz.zeroValue85) ?_
  rintro _ _ ⟨bx, rfl, rfl⟩
  refine s_do0 (d_storeAll Tryz.sizeOf85 rfl rfl rfl rfl rfl) ?_
  rintro _ _ rfl
  refine x_nil (n_then (x_seq (x_block (x_seq (x_region ?_)))))
  refine s_val rfl (v_fieldAddr rfl Tryz.underlying85 rfl Tryz.sizeOf3 rfl (by first | exact Nat.zero_add _ | rfl)) ?_
  refine s_val rfl (v_load Tryz.isAgg3 rfl (cell_own rfl)) ?_
  refine s_val rfl (v_fieldAddr rfl Tryz.underlying29 rfl Tryz.sizeOf3 rfl (by first | exact Nat.zero_add _ | rfl)) ?_
  refine s_val rfl (v_load Tryz.isAgg3 rfl (cell_own rfl)) ?_
  refine s_do rfl (d_call Tryz.call164 rfl (lbValid_spec W0 _ x.1 cats)) ?_
  rintro _ B_ ⟨rfl, hB_⟩
  obtain rfl := hB_.symm
  refine s_val rfl (v_not rfl) (s_val rfl (v_assign rfl) (x_nil (n_then ?_)))
  refine x_if rfl ?_ ?_
  · intro c2
    refine x_seq (x_region (s_val rfl (v_assign rfl) (x_nil (n_then (x_ret (r_block (r_then (x_done (.inl rfl) (.cons (r_tmp rfl) .nil) ?_))))))))
    rw [gstW_yes (fun q => by simp_all)]
    exact ⟨_, ⟨rfl, rfl⟩, inferInstance⟩
  · intro c2
    refine x_seq (x_seq (x_region ?_))
    refine s_val rfl (v_fieldAddr rfl Tryz.underlying85 rfl Tryz.sizeOf3 rfl (by first | exact Nat.zero_add _ | rfl)) ?_
    refine s_val rfl (v_load Tryz.isAgg3 rfl (cell_own rfl)) ?_
    refine s_val rfl (v_lss rfl rfl) (s_val rfl (v_assign rfl) (x_nil (n_then ?_)))
    refine x_if rfl ?_ ?_
    · intro c4
      refine x_skip (n_then (x_ift rfl (x_seq (x_region (s_val rfl (v_assign rfl) (x_nil (n_then (x_ret (r_block (r_then (x_done (.inl rfl) (.cons (r_tmp rfl) .nil) ?_)))))))))))
      rw [gstW_yes (fun q => by omega)]
      exact ⟨_, ⟨rfl, rfl⟩, inferInstance⟩
    · intro c4
      refine x_region ?_
      refine s_val rfl (v_fieldAddr rfl Tryz.underlying85 rfl Tryz.sizeOf3 rfl (by first | exact Nat.zero_add _ | rfl)) ?_
      refine s_val rfl (v_load Tryz.isAgg3 rfl (cell_own rfl)) ?_
      refine s_val rfl (v_gtr rfl rfl) (s_val rfl (v_assign rfl) (x_nil (n_then ?_)))
      refine x_if rfl ?_ ?_
      · intro c5
        refine x_seq (x_region (s_val rfl (v_assign rfl) (x_nil (n_then (x_ret (r_block (r_then (x_done (.inl rfl) (.cons (r_tmp rfl) .nil) ?_))))))))
        rw [gstW_yes (fun q => by omega)]
        exact ⟨_, ⟨rfl, rfl⟩, inferInstance⟩
      · intro c5
        refine x_skip (n_block (n_then (x_seq (x_region ?_))))
        refine s_val rfl (v_fieldAddr rfl Tryz.underlying85 rfl Tryz.sizeOf3 rfl (by first | exact Nat.zero_add _ | rfl)) ?_
        refine s_val rfl (v_load Tryz.isAgg3 rfl (cell_own rfl)) ?_
        refine s_val rfl (v_lss rfl rfl) (s_val rfl (v_move rfl) ?_)
        refine s_or rfl rfl rfl ?_ ?_
        · intro g7_4
          refine s_no rfl rfl rfl rfl (s_no rfl rfl rfl rfl (s_no rfl rfl rfl rfl (s_no rfl rfl rfl rfl (s_no rfl rfl rfl rfl (s_val rfl (v_pick_t rfl rfl) (s_val rfl (v_assign rfl) (x_nil (n_then (x_ret (x_done (.inl rfl) (.cons (r_tmp rfl) .nil) ?_))))))))))
          first
            | (rw [gstW_yes (fun q => by omega)]; exact ⟨_, ⟨rfl, rfl⟩, inferInstance⟩)
            | (refine ⟨_, ⟨?_, rfl⟩, inferInstance⟩
               refine congrArg Value.bool ?_
               rw [Bool.eq_iff_iff, decide_eq_true_iff]
               constructor
               · intro q; exact gstW_yes (fun q2 => by omega)
               · intro q
                 apply Decidable.byContradiction
                 intro q2
                 rw [gstW_no.2 ⟨by simp_all, by omega, by omega, by omega, by omega⟩] at q; cases q)
        · intro g7_4
          refine s_val rfl (v_fieldAddr rfl Tryz.underlying85 rfl Tryz.sizeOf3 rfl (by first | exact Nat.zero_add _ | rfl)) ?_
          refine s_yes rfl rfl (s_val rfl (v_load Tryz.isAgg3 rfl (cell_own rfl)) ?_)
          refine s_yes rfl rfl ?_
          refine s_val rfl (v_fieldAddr rfl Tryz.underlying85 rfl Tryz.sizeOf3 rfl (by first | exact Nat.zero_add _ | rfl)) ?_
          refine s_yes rfl rfl (s_val rfl (v_load Tryz.isAgg3 rfl (cell_own rfl)) ?_)
          refine s_yes rfl rfl ?_
          refine s_val rfl (v_sub rfl rfl (w64 (by omega))) ?_
          refine s_yes rfl rfl (s_val rfl (v_gtr rfl rfl) (s_val rfl (v_pick_f rfl rfl) (s_val rfl (v_assign rfl) (x_nil (n_then (x_ret (x_done (.inl rfl) (.cons (r_tmp rfl) .nil) ?_)))))))
          first
            | (rw [gstW_yes (fun q => by omega)]; exact ⟨_, ⟨rfl, rfl⟩, inferInstance⟩)
            | (refine ⟨_, ⟨?_, rfl⟩, inferInstance⟩
               refine congrArg Value.bool ?_
               rw [Bool.eq_iff_iff, decide_eq_true_iff]
               constructor
               · intro q; exact gstW_yes (fun q2 => by omega)
               · intro q
                 apply Decidable.byContradiction
                 intro q2
                 rw [gstW_no.2 ⟨by simp_all, by omega, by omega, by omega, by omega⟩] at q; cases q)
  ⟩
theorem cfFirst1_spec (W0 : World) (R : List HP) (fn : FuncId) (cs : List Value) (n b : Nat) (o : Obj) (w : Nat → Bool) (hw : WF W0 fn cs n (fun _ => grp [pt b o]) w) (hn : n ≤ 1000) :
    Spec Tryz.prog W0 127 [.int .i64 (n : Int), .func (.func fn) #[] cs.toArray] (pt b o :: R) (fun v B => ∃ r, v = .tuple #[.int .i64 r, .bool (anyW w n)] ∧ B = R) :=
  spec_ent (B := kH 0 (grp [pt b o]) :: R) (ent_shut (A := [pt b o])) (cfFirst_spec W0 R fn cs n (fun _ => grp [pt b o]) w hw hn)
def grW (c : Cfg) : Bool := decide (c.gl.length < 1 ∨ 4 < c.gl.length) || anyW (fun i => gstW c.cats (c.gl.getD i (0, 0, 0))) c.gl.length
theorem cfGuests_spec (W0 : World) (R : List HP) (c : Cfg) (hs : ∀ A, SlA (OwnP W0 A) c.ga 3 gsV c.gl) :
    Spec Tryz.prog W0 113 [.agg (cfgV c).toArray] R (fun v B => ∃ r, v = .tuple #[.int .i64 r, .bool (grW c)] ∧ B = R) := by
  obtain ⟨w, hw⟩ : ∃ w, (fun i => gstW c.cats (c.gl.getD i (0, 0, 0))) = w := ⟨_, rfl⟩
  have hG : grW c = (decide (c.gl.length < 1 ∨ 4 < c.gl.length) || anyW w c.gl.length) := by rw [grW, hw]
  refine spec_body Tryz.func113 Tryz.ntmps113 rfl rfl ?_
  refine x_seq (x_region (s_do rfl (d_boxA rfl) ?_))
  rintro _ _ ⟨b1, rfl, rfl⟩
  refine s_val rfl (v_assign rfl) (s_val rfl (v_assign rfl) (x_nil (n_then (x_seq (x_seq (x_region ?_))))))
  refine s_val rfl (v_fieldAddr rfl Tryz.underlying29 rfl Tryz.sizeOf23 rfl (by first | exact Nat.zero_add _ | rfl)) ?_
  refine s_val rfl (v_load Tryz.isAgg23 rfl (cell_own rfl)) ?_
  refine s_val rfl (v_len_slice Tryz.underlying23 rfl) (s_val rfl (v_lss rfl rfl) (s_val rfl (v_move rfl) ?_))
  refine s_or rfl rfl rfl ?_ ?_
  · intro g1_5
    refine s_no rfl rfl rfl rfl (s_no rfl rfl rfl rfl (s_no rfl rfl rfl rfl (s_val rfl (v_pick_t rfl rfl) (x_nil (n_then (x_ift rfl (x_seq (x_region (s_val rfl (v_assign rfl) (s_val rfl (v_assign rfl) (x_nil (n_then (x_ret (r_then (x_done (.inl rfl) (.cons (r_tmp rfl) (.cons (r_tmp rfl) .nil)) ?_)))))))))))))))
    rw [hG, decide_eq_true (by omega), Bool.true_or]
    exact ⟨_, ⟨0, rfl, rfl⟩, inferInstance⟩
  · intro g1_5
    refine s_val rfl (v_fieldAddr rfl Tryz.underlying29 rfl Tryz.sizeOf23 rfl (by first | exact Nat.zero_add _ | rfl)) ?_
    refine s_yes rfl rfl (s_val rfl (v_load Tryz.isAgg23 rfl (cell_own rfl)) ?_)
    refine s_yes rfl rfl (s_val rfl (v_len_slice Tryz.underlying23 rfl) (s_yes rfl rfl (s_val rfl (v_gtr rfl rfl) (s_val rfl (v_pick_f rfl rfl) (x_nil (n_then ?_))))))
    refine x_if rfl ?_ ?_
    · intro c1
      refine x_seq (x_region (s_val rfl (v_assign rfl) (s_val rfl (v_assign rfl) (x_nil (n_then (x_ret (r_then (x_done (.inl rfl) (.cons (r_tmp rfl) (.cons (r_tmp rfl) .nil)) ?_))))))))
      rw [hG, decide_eq_true (by omega), Bool.true_or]
      exact ⟨_, ⟨0, rfl, rfl⟩, inferInstance⟩
    · intro c1
      refine x_skip (n_then (x_seq (x_region ?_)))
      refine s_val rfl (v_fieldAddr rfl Tryz.underlying29 rfl Tryz.sizeOf23 rfl (by first | exact Nat.zero_add _ | rfl)) ?_
      refine s_val rfl (v_load Tryz.isAgg23 rfl (cell_own rfl)) ?_
      refine s_val rfl (v_len_slice Tryz.underlying23 rfl) (s_val rfl (v_mkFunc rfl rfl) ?_)
      refine s_do rfl (d_call1 Tryz.call127 rfl (cfFirst1_spec W0 _ 246 [.pointer (some ⟨b1, 0, none⟩)] c.gl.length b1 _ w (hw ▸ guests1_wf W0 b1 c hs) (by omega))) ?_
      rintro _ B_ ⟨r, rfl, hB_⟩
      obtain rfl := hB_.symm
      refine s_val rfl (v_extract rfl rfl) (s_val rfl (v_extract rfl rfl) (s_val rfl (v_assign rfl) (s_val rfl (v_assign rfl) (x_nil (n_then (x_ret (x_done (.inl rfl) (.cons (r_tmp rfl) (.cons (r_tmp rfl) .nil)) ?_)))))))
      rw [hG, decide_eq_false (by omega), Bool.false_or]
      exact ⟨_, ⟨r, rfl, rfl⟩, inferInstance⟩
def isG (c : Cfg) (i : Int) : Bool := decide (0 ≤ i ∧ i < c.gl.length)
theorem cfGuest_spec (W0 : World) (R : List HP) (c : Cfg) (i : Int) : Spec Tryz.prog W0 251 [.agg (cfgV c).toArray, .int .i64 i] R (fun v B => v = .bool (isG c i) ∧ B = R) := by
  refine spec_body Tryz.func251 Tryz.ntmps251 rfl rfl ?_
  refine x_seq (x_region (s_do rfl (d_boxA rfl) ?_))
  rintro _ _ ⟨b1, rfl, rfl⟩
  refine s_val rfl (v_assign rfl) (x_nil (n_then (x_seq (x_region (s_val rfl (v_move rfl) (s_val rfl (v_geq rfl rfl) (s_val rfl (v_move rfl) ?_)))))))
  refine s_and rfl rfl rfl ?_ ?_
  · intro g1_3
    refine s_val rfl (v_move rfl) (s_yes rfl rfl ?_)
    refine s_val rfl (v_fieldAddr rfl Tryz.underlying29 rfl Tryz.sizeOf23 rfl (by first | exact Nat.zero_add _ | rfl)) ?_
    refine s_yes rfl rfl (s_val rfl (v_load Tryz.isAgg23 rfl (cell_own rfl)) ?_)
    refine s_yes rfl rfl (s_val rfl (v_len_slice Tryz.underlying23 rfl) (s_yes rfl rfl (s_val rfl (v_lss rfl rfl) (s_val rfl (v_pick_t rfl rfl) (s_val rfl (v_assign rfl) (x_nil (n_then (x_ret (x_done (.inl rfl) (.cons (r_tmp rfl) .nil) ?_)))))))))
    refine ⟨_, ⟨?_, rfl⟩, inferInstance⟩
    refine congrArg Value.bool ?_
    rw [Bool.eq_iff_iff, isG, decide_eq_true_iff]
    first
      | (rw [decide_eq_true_iff]; constructor
         · intro q; omega
         · intro q; omega)
      | (constructor
         · intro q; first | omega | (cases q)
         · intro q; omega)
  · intro g1_3
    refine s_no rfl rfl rfl rfl (s_no rfl rfl rfl rfl (s_no rfl rfl rfl rfl (s_no rfl rfl rfl rfl (s_val rfl (v_pick_f rfl rfl) (s_val rfl (v_assign rfl) (x_nil (n_then (x_ret (x_done (.inl rfl) (.cons (r_tmp rfl) .nil) ?_)))))))))
    refine ⟨_, ⟨?_, rfl⟩, inferInstance⟩
    refine congrArg Value.bool ?_
    rw [Bool.eq_iff_iff, isG, decide_eq_true_iff]
    first
      | (rw [decide_eq_true_iff]; constructor
         · intro q; omega
         · intro q; omega)
      | (constructor
         · intro q; first | omega | (cases q)
         · intro q; omega)
@[reducible] def pairV (x : Int × Int) : List Value := [.int .i64 x.1, .int .i64 x.2]
def sltW (c : Cfg) (s : Int × Int) : Bool := !(isG c s.1 && decide (1 ≤ s.2 ∧ s.2 ≤ 32))
theorem slots1_wf (W0 : World) (b1 : Nat) (c : Cfg) (hs : ∀ A, SlA (OwnP W0 A) c.sa 2 pairV c.sl) :
    WF W0 255 [.pointer (some ⟨b1, 0, none⟩)] c.sl.length (fun _ => grp [pt b1 (cob (cfgV c) 29)]) (fun i => sltW c (c.sl.getD i (0, 0))) := ⟨Tryz.call255, fun i hi R => by
  refine spec_kgrp ?_
  simp only [List.cons_append, List.nil_append]
  obtain ⟨g, o, hga, hc⟩ := (hs (pt b1 (cob (cfgV c) 29) :: R)).at_ hi
  obtain ⟨x, hx⟩ : ∃ x, c.sl[i] = x := ⟨_, rfl⟩
  rw [show c.sl.getD i (0, 0) = x by simp [List.getD, hi, hx]]
  rw [hx] at hc
  obtain ⟨w, hw⟩ : ∃ w, isG c x.1 = w := ⟨_, rfl⟩
  have hW : sltW c x = !(w && decide (1 ≤ x.2 ∧ x.2 ≤ 32)) := by rw [sltW, hw]
  rw [hW]
  obtain ⟨cats, ga, gc, gl, ra, rc, rl, pa, pc, pl, na, nc, nl, sa, sc, sl, gate, quota⟩ := c
  dsimp only at hs hi hga hc hw ⊢
  subst hga
  refine spec_body Tryz.func255 Tryz.ntmps255 rfl rfl ?_
  refine x_seq (x_region (s_val rfl (v_assign rfl) (x_nil (n_then (x_seq (x_region ?_))))))
  refine s_val rfl (v_fieldAddr rfl Tryz.underlying29 rfl Tryz.sizeOf27 rfl (by first | exact Nat.zero_add _ | rfl)) ?_
  refine s_val rfl (v_load Tryz.isAgg27 rfl (cell_own rfl)) ?_
  refine s_val rfl (v_move rfl) ?_
  refine s_val rfl (v_idx Tryz.underlying27 Tryz.sizeOf87 rfl rfl rfl hi (by first | exact Nat.zero_add _ | rfl)) ?_
  refine s_val rfl (v_loadAgg Tryz.isAgg87 Tryz.sizeOf87 rfl hc.weak rfl) ?_
  refine s_do rfl (d_allocA Tryz.zeroValue87) ?_
  rintro _ _ ⟨bx, rfl, rfl⟩
  refine s_do0 (d_storeAll Tryz.sizeOf87 rfl rfl rfl rfl rfl) ?_
  rintro _ _ rfl
  refine x_nil (n_then (x_seq (x_region (s_val rfl (v_loadAll Tryz.isAgg29 Tryz.sizeOf29 rfl rfl) ?_))))
  refine s_val rfl (v_fieldAddr rfl Tryz.underlying87 rfl Tryz.sizeOf3 rfl (by first | exact Nat.zero_add _ | rfl)) ?_
  refine s_val rfl (v_load Tryz.isAgg3 rfl (cell_own rfl)) ?_
  refine s_do rfl (d_call Tryz.call251 rfl (cfGuest_spec W0 _ ⟨cats, ga, gc, gl, ra, rc, rl, pa, pc, pl, na, nc, nl, some ⟨g, o, none⟩, sc, sl, gate, quota⟩ x.1)) ?_
  rintro _ B_ ⟨rfl, hB_⟩
  obtain rfl := hB_.symm
  rw [hw]
  refine s_val rfl (v_not rfl) (s_val rfl (v_move rfl) ?_)
  refine s_or rfl rfl rfl ?_ ?_
  · intro g2_6
    refine s_no rfl rfl rfl rfl (s_no rfl rfl rfl rfl (s_val rfl (v_pick_t rfl rfl) (s_val rfl (v_move rfl) (s_no rfl rfl rfl rfl (s_no rfl rfl rfl rfl (s_no rfl rfl rfl rfl (s_val rfl (v_pick_t rfl rfl) (s_val rfl (v_assign rfl) (x_nil (n_then (x_ret (x_done (.inl rfl) (.cons (r_tmp rfl) .nil) ?_))))))))))))
    refine ⟨_, ⟨?_, rfl⟩, inferInstance⟩
    refine congrArg Value.bool ?_
    rw [Bool.eq_iff_iff]
    cases w <;> simp_all <;> omega
  · intro g2_6
    refine s_val rfl (v_fieldAddr rfl Tryz.underlying87 rfl Tryz.sizeOf3 rfl (by first | exact Nat.zero_add _ | rfl)) ?_
    refine s_yes rfl rfl (s_val rfl (v_load Tryz.isAgg3 rfl (cell_own rfl)) ?_)
    refine s_yes rfl rfl (s_val rfl (v_lss rfl rfl) (s_val rfl (v_pick_f rfl rfl) (s_val rfl (v_move rfl) ?_)))
    refine s_or rfl rfl rfl ?_ ?_
    · intro g2_11
      refine s_no rfl rfl rfl rfl (s_no rfl rfl rfl rfl (s_val rfl (v_pick_t rfl rfl) (s_val rfl (v_assign rfl) (x_nil (n_then (x_ret (x_done (.inl rfl) (.cons (r_tmp rfl) .nil) ?_)))))))
      refine ⟨_, ⟨?_, rfl⟩, inferInstance⟩
      refine congrArg Value.bool ?_
      rw [Bool.eq_iff_iff]
      cases w <;> simp_all <;> omega
    · intro g2_11
      refine s_val rfl (v_fieldAddr rfl Tryz.underlying87 rfl Tryz.sizeOf3 rfl (by first | exact Nat.zero_add _ | rfl)) ?_
      refine s_yes rfl rfl (s_val rfl (v_load Tryz.isAgg3 rfl (cell_own rfl)) ?_)
      refine s_yes rfl rfl (s_val rfl (v_gtr rfl rfl) (s_val rfl (v_pick_f rfl rfl) (s_val rfl (v_assign rfl) (x_nil (n_then (x_ret (x_done (.inl rfl) (.cons (r_tmp rfl) .nil) ?_)))))))
      refine ⟨_, ⟨?_, rfl⟩, inferInstance⟩
      refine congrArg Value.bool ?_
      rw [Bool.eq_iff_iff]
      cases w <;> simp_all <;> omega
  ⟩
def slW (c : Cfg) : Bool := decide (c.sl.length < 1 ∨ 8 < c.sl.length) || anyW (fun i => sltW c (c.sl.getD i (0, 0))) c.sl.length
theorem cfSlots_spec (W0 : World) (R : List HP) (c : Cfg) (hs : ∀ A, SlA (OwnP W0 A) c.sa 2 pairV c.sl) :
    Spec Tryz.prog W0 117 [.agg (cfgV c).toArray] R (fun v B => ∃ r, v = .tuple #[.int .i64 r, .bool (slW c)] ∧ B = R) := by
  obtain ⟨w, hw⟩ : ∃ w, (fun i => sltW c (c.sl.getD i (0, 0))) = w := ⟨_, rfl⟩
  have hG : slW c = (decide (c.sl.length < 1 ∨ 8 < c.sl.length) || anyW w c.sl.length) := by rw [slW, hw]
  refine spec_body Tryz.func117 Tryz.ntmps117 rfl rfl ?_
  refine x_seq (x_region (s_do rfl (d_boxA rfl) ?_))
  rintro _ _ ⟨b1, rfl, rfl⟩
  refine s_val rfl (v_assign rfl) (s_val rfl (v_assign rfl) (x_nil (n_then (x_seq (x_seq (x_region ?_))))))
  refine s_val rfl (v_fieldAddr rfl Tryz.underlying29 rfl Tryz.sizeOf27 rfl (by first | exact Nat.zero_add _ | rfl)) ?_
  refine s_val rfl (v_load Tryz.isAgg27 rfl (cell_own rfl)) ?_
  refine s_val rfl (v_len_slice Tryz.underlying27 rfl) (s_val rfl (v_lss rfl rfl) (s_val rfl (v_move rfl) ?_))
  refine s_or rfl rfl rfl ?_ ?_
  · intro g1_5
    refine s_no rfl rfl rfl rfl (s_no rfl rfl rfl rfl (s_no rfl rfl rfl rfl (s_val rfl (v_pick_t rfl rfl) (x_nil (n_then (x_ift rfl (x_seq (x_region (s_val rfl (v_assign rfl) (s_val rfl (v_assign rfl) (x_nil (n_then (x_ret (r_then (x_done (.inl rfl) (.cons (r_tmp rfl) (.cons (r_tmp rfl) .nil)) ?_)))))))))))))))
    rw [hG, decide_eq_true (by omega), Bool.true_or]
    exact ⟨_, ⟨0, rfl, rfl⟩, inferInstance⟩
  · intro g1_5
    refine s_val rfl (v_fieldAddr rfl Tryz.underlying29 rfl Tryz.sizeOf27 rfl (by first | exact Nat.zero_add _ | rfl)) ?_
    refine s_yes rfl rfl (s_val rfl (v_load Tryz.isAgg27 rfl (cell_own rfl)) ?_)
    refine s_yes rfl rfl (s_val rfl (v_len_slice Tryz.underlying27 rfl) (s_yes rfl rfl (s_val rfl (v_gtr rfl rfl) (s_val rfl (v_pick_f rfl rfl) (x_nil (n_then ?_))))))
    refine x_if rfl ?_ ?_
    · intro c1
      refine x_seq (x_region (s_val rfl (v_assign rfl) (s_val rfl (v_assign rfl) (x_nil (n_then (x_ret (r_then (x_done (.inl rfl) (.cons (r_tmp rfl) (.cons (r_tmp rfl) .nil)) ?_))))))))
      rw [hG, decide_eq_true (by omega), Bool.true_or]
      exact ⟨_, ⟨0, rfl, rfl⟩, inferInstance⟩
    · intro c1
      refine x_skip (n_then (x_seq (x_region ?_)))
      refine s_val rfl (v_fieldAddr rfl Tryz.underlying29 rfl Tryz.sizeOf27 rfl (by first | exact Nat.zero_add _ | rfl)) ?_
      refine s_val rfl (v_load Tryz.isAgg27 rfl (cell_own rfl)) ?_
      refine s_val rfl (v_len_slice Tryz.underlying27 rfl) (s_val rfl (v_mkFunc rfl rfl) ?_)
      refine s_do rfl (d_call1 Tryz.call127 rfl (cfFirst1_spec W0 _ 255 [.pointer (some ⟨b1, 0, none⟩)] c.sl.length b1 _ w (hw ▸ slots1_wf W0 b1 c hs) (by omega))) ?_
      rintro _ B_ ⟨r, rfl, hB_⟩
      obtain rfl := hB_.symm
      refine s_val rfl (v_extract rfl rfl) (s_val rfl (v_extract rfl rfl) (s_val rfl (v_assign rfl) (s_val rfl (v_assign rfl) (x_nil (n_then (x_ret (x_done (.inl rfl) (.cons (r_tmp rfl) (.cons (r_tmp rfl) .nil)) ?_)))))))
      rw [hG, decide_eq_false (by omega), Bool.false_or]
      exact ⟨_, ⟨r, rfl, rfl⟩, inferInstance⟩
def gtW (c : Cfg) : Bool := if c.gate = -1 then decide (c.quota ≠ 0) else !(isG c c.gate && decide (0 ≤ c.quota ∧ c.quota ≤ 64))
theorem cfGate_spec (W0 : World) (R : List HP) (c : Cfg) : Spec Tryz.prog W0 118 [.agg (cfgV c).toArray] R (fun v B => v = .bool (gtW c) ∧ B = R) := by
  obtain ⟨w, hw⟩ : ∃ w, isG c c.gate = w := ⟨_, rfl⟩
  have hW : gtW c = if c.gate = -1 then decide (c.quota ≠ 0) else !(w && decide (0 ≤ c.quota ∧ c.quota ≤ 64)) := by rw [gtW, hw]
  rw [hW]
  refine spec_body Tryz.func118 Tryz.ntmps118 rfl rfl ?_
  refine x_seq (x_region (s_do rfl (d_boxA rfl) ?_))
  rintro _ _ ⟨b1, rfl, rfl⟩
  refine s_val rfl (v_assign rfl) (x_nil (n_then (x_seq (x_block (x_seq (x_block (x_block (x_seq (x_block (x_seq (x_seq (x_seq (x_region ?_)))))))))))))
  refine s_val rfl (v_fieldAddr rfl Tryz.underlying29 rfl Tryz.sizeOf3 rfl (by first | exact Nat.zero_add _ | rfl)) ?_
  refine s_val rfl (v_load Tryz.isAgg3 rfl (cell_own rfl)) ?_
  refine s_val rfl (v_eql rfl rfl) (s_val rfl (v_assign rfl) (x_nil (n_then ?_)))
  refine x_if rfl ?_ ?_
  · intro c1
    refine x_exit (e_then (e_then (e_block (n_then (x_seq (x_seq (x_region ?_)))))))
    refine s_val rfl (v_fieldAddr rfl Tryz.underlying29 rfl Tryz.sizeOf3 rfl (by first | exact Nat.zero_add _ | rfl)) ?_
    refine s_val rfl (v_load Tryz.isAgg3 rfl (cell_own rfl)) ?_
    refine s_val rfl (v_neq rfl rfl) (s_val rfl (v_assign rfl) (x_nil (n_then (x_ret (r_then (r_block (r_block (r_then (r_block (r_then (x_done (.inl rfl) (.cons (r_tmp rfl) .nil) ?_)))))))))))
    refine ⟨_, ⟨?_, rfl⟩, inferInstance⟩
    refine congrArg Value.bool ?_
    rw [Bool.eq_iff_iff]
    cases w <;> simp_all <;> omega
  · intro c1
    refine x_skip (n_then (x_seq (x_seq (x_region (s_val rfl (v_loadAll Tryz.isAgg29 Tryz.sizeOf29 rfl rfl) ?_)))))
    refine s_val rfl (v_fieldAddr rfl Tryz.underlying29 rfl Tryz.sizeOf3 rfl (by first | exact Nat.zero_add _ | rfl)) ?_
    refine s_val rfl (v_load Tryz.isAgg3 rfl (cell_own rfl)) ?_
    refine s_do rfl (d_call Tryz.call251 rfl (cfGuest_spec W0 _ c c.gate)) ?_
    rintro _ B_ ⟨rfl, hB_⟩
    obtain rfl := hB_.symm
    rw [hw]
    refine s_val rfl (v_not rfl) (s_val rfl (v_assign rfl) (x_nil (n_then ?_)))
    refine x_if rfl ?_ ?_
    · intro c2
      refine x_exit (e_then (e_then (e_block_ne rfl (e_then (e_block (n_block (n_then (x_seq (x_seq (x_region (s_val rfl (v_assign rfl) (x_nil (n_then (x_ret (r_then (r_block (r_then (x_done (.inl rfl) (.cons (r_tmp rfl) .nil) ?_))))))))))))))))))
      refine ⟨_, ⟨?_, rfl⟩, inferInstance⟩
      refine congrArg Value.bool ?_
      rw [Bool.eq_iff_iff]
      cases w <;> simp_all <;> omega
    · intro c2
      refine x_skip (n_then (x_seq (x_seq (x_region ?_))))
      refine s_val rfl (v_fieldAddr rfl Tryz.underlying29 rfl Tryz.sizeOf3 rfl (by first | exact Nat.zero_add _ | rfl)) ?_
      refine s_val rfl (v_load Tryz.isAgg3 rfl (cell_own rfl)) ?_
      refine s_val rfl (v_lss rfl rfl) (s_val rfl (v_assign rfl) (x_nil (n_then ?_)))
      refine x_if rfl ?_ ?_
      · intro c3
        refine x_skip (n_then (x_ift rfl (x_exit (e_then (e_block_ne rfl (e_then (e_block_ne rfl (e_block (n_then (x_seq (x_seq (x_region (s_val rfl (v_assign rfl) (x_nil (n_then (x_ret (r_then (r_block (r_then (x_done (.inl rfl) (.cons (r_tmp rfl) .nil) ?_))))))))))))))))))))
        refine ⟨_, ⟨?_, rfl⟩, inferInstance⟩
        refine congrArg Value.bool ?_
        rw [Bool.eq_iff_iff]
        cases w <;> simp_all <;> omega
      · intro c3
        refine x_region ?_
        refine s_val rfl (v_fieldAddr rfl Tryz.underlying29 rfl Tryz.sizeOf3 rfl (by first | exact Nat.zero_add _ | rfl)) ?_
        refine s_val rfl (v_load Tryz.isAgg3 rfl (cell_own rfl)) ?_
        refine s_val rfl (v_gtr rfl rfl) (s_val rfl (v_assign rfl) (x_nil (n_then ?_)))
        refine x_if rfl ?_ ?_
        · intro c4
          refine x_exit (e_then (e_block_ne rfl (e_then (e_block_ne rfl (e_block (n_then (x_seq (x_seq (x_region (s_val rfl (v_assign rfl) (x_nil (n_then (x_ret (r_then (r_block (r_then (x_done (.inl rfl) (.cons (r_tmp rfl) .nil) ?_)))))))))))))))))
          refine ⟨_, ⟨?_, rfl⟩, inferInstance⟩
          refine congrArg Value.bool ?_
          rw [Bool.eq_iff_iff]
          cases w <;> simp_all <;> omega
        · intro c4
          refine x_skip (n_then (x_exit (e_block_ne rfl (e_then (e_block_ne rfl (e_block_ne rfl (e_then (e_block (n_then (x_seq (x_region (s_val rfl (v_assign rfl) (x_nil (n_then (x_ret (x_done (.inl rfl) (.cons (r_tmp rfl) .nil) ?_))))))))))))))))
          refine ⟨_, ⟨?_, rfl⟩, inferInstance⟩
          refine congrArg Value.bool ?_
          rw [Bool.eq_iff_iff]
          cases w <;> simp_all <;> omega
end Go.Proofs.YtnidndllknffgaaGreat
namespace Go.Proofs.YtnidndllknffgaaGreat
open Go.RowKit
set_option linter.unusedSimpArgs false
set_option linter.unusedVariables false
set_option maxRecDepth 20000
def labG (c : Cfg) (i : Int) : Int := (c.gl.getD i.toNat (0, 0, 0)).1
def rngW (c : Cfg) (x : Int × Int) : Bool := !(isG c x.1 && isG c x.2 && decide (x.1 ≠ x.2) && flB (labG c x.1) (labG c x.2))
theorem rings1_wf (W0 : World) (b1 : Nat) (c : Cfg) (hs : ∀ A, SlA (OwnP W0 A) c.na 2 pairV c.nl) (hgs : ∀ A, SlA (OwnP W0 A) c.ga 3 gsV c.gl) :
    WF W0 253 [.pointer (some ⟨b1, 0, none⟩)] c.nl.length (fun _ => grp [pt b1 (cob (cfgV c) 29)]) (fun i => rngW c (c.nl.getD i (0, 0))) := ⟨Tryz.call253, fun i hi R => by
  refine spec_kgrp ?_
  simp only [List.cons_append, List.nil_append]
  obtain ⟨g, o, hga, hc⟩ := (hs (pt b1 (cob (cfgV c) 29) :: R)).at_ hi
  obtain ⟨x, hx⟩ : ∃ x, c.nl[i] = x := ⟨_, rfl⟩
  rw [show c.nl.getD i (0, 0) = x by simp [List.getD, hi, hx]]
  rw [hx] at hc
  obtain ⟨p, q⟩ := x
  obtain ⟨w1, hw1⟩ : ∃ w, isG c p = w := ⟨_, rfl⟩
  obtain ⟨w2, hw2⟩ : ∃ w, isG c q = w := ⟨_, rfl⟩
  have hW : rngW c (p, q) = !(w1 && w2 && decide (p ≠ q) && flB (labG c p) (labG c q)) := by rw [rngW, hw1, hw2]
  by_cases hb : w1 = true ∧ w2 = true
  · obtain ⟨rfl, rfl⟩ := hb
    have h1 : 0 ≤ p ∧ p < c.gl.length := of_decide_eq_true hw1
    have h2 : 0 ≤ q ∧ q < c.gl.length := of_decide_eq_true hw2
    obtain ⟨j, rfl⟩ : ∃ j : Nat, p = (j : Int) := ⟨p.toNat, by omega⟩
    obtain ⟨k, rfl⟩ : ∃ k : Nat, q = (k : Int) := ⟨q.toNat, by omega⟩
    have hj : j < c.gl.length := by omega
    have hk : k < c.gl.length := by omega
    obtain ⟨u, hu⟩ : ∃ u, c.gl[j] = u := ⟨_, rfl⟩
    obtain ⟨v, hv⟩ : ∃ v, c.gl[k] = v := ⟨_, rfl⟩
    have hl1 : labG c (j : Int) = u.1 := by rw [labG, Int.toNat_natCast]; simp [List.getD, hj, hu]
    have hl2 : labG c (k : Int) = v.1 := by rw [labG, Int.toNat_natCast]; simp [List.getD, hk, hv]
    rw [hl1, hl2] at hW
    rw [hW]
    obtain ⟨gg, og, hgg, hcj⟩ := (hgs (pt b1 (cob (cfgV c) 29) :: R)).at_ hj
    obtain ⟨gh, oh, hgh, hck⟩ := (hgs (pt b1 (cob (cfgV c) 29) :: R)).at_ hk
    rw [hu] at hcj
    rw [hv] at hck
    obtain ⟨cats, ga, gc, gl, ra, rc, rl, pa, pc, pl, na, nc, nl, sa, sc, sl, gate, quota⟩ := c
    dsimp only at hi hga hc hw1 hw2 hj hk hgg hgh hcj hck ⊢
    subst hga
    subst hgg
    obtain ⟨rfl, rfl⟩ : gg = gh ∧ og = oh := by cases hgh; exact ⟨rfl, rfl⟩
    refine spec_body Tryz.func253 Tryz.ntmps253 rfl rfl ?_
    refine x_seq (x_region (s_val rfl (v_assign rfl) (x_nil (n_then (x_seq (x_region ?_))))))
    refine s_val rfl (v_fieldAddr rfl Tryz.underlying29 rfl Tryz.sizeOf26 rfl (by first | exact Nat.zero_add _ | rfl)) ?_
    refine s_val rfl (v_load Tryz.isAgg26 rfl (cell_own rfl)) ?_
    refine s_val rfl (v_move rfl) ?_
    refine s_val rfl (v_idx Tryz.underlying26 Tryz.sizeOf61 rfl rfl rfl hi (by first | exact Nat.zero_add _ | rfl)) ?_
    refine s_val rfl (v_loadAgg Tryz.isAgg61 Tryz.sizeOf61 rfl hc.weak rfl) ?_
    refine s_do rfl (d_allocA Tryz.zeroValue61) ?_
    rintro _ _ ⟨bx, rfl, rfl⟩
    refine s_do0 (d_storeAll Tryz.sizeOf61 rfl rfl rfl rfl rfl) ?_
    rintro _ _ rfl
    refine x_nil (n_then (x_seq (x_seq (x_region (s_val rfl (v_loadAll Tryz.isAgg29 Tryz.sizeOf29 rfl rfl) ?_)))))
    refine s_val rfl (v_fieldAddr rfl Tryz.underlying61 rfl Tryz.sizeOf3 rfl (by first | exact Nat.zero_add _ | rfl)) ?_
    refine s_val rfl (v_load Tryz.isAgg3 rfl (cell_own rfl)) ?_
    refine s_do rfl (d_call Tryz.call251 rfl (cfGuest_spec W0 _ ⟨cats, some ⟨gg, og, none⟩, gc, gl, ra, rc, rl, pa, pc, pl, some ⟨g, o, none⟩, nc, nl, sa, sc, sl, gate, quota⟩ (j : Int))) ?_
    rintro _ B_ ⟨rfl, hB_⟩
    obtain rfl := hB_.symm
    rw [hw1]
    refine s_val rfl (v_not rfl) (s_val rfl (v_move rfl) ?_)
    refine s_or rfl rfl rfl ?_ ?_
    · intro g2_6
      exact absurd rfl g2_6
    · intro g2_6
      refine s_val rfl (v_loadAll Tryz.isAgg29 Tryz.sizeOf29 rfl rfl) ?_
      refine s_yes rfl rfl ?_
      refine s_val rfl (v_fieldAddr rfl Tryz.underlying61 rfl Tryz.sizeOf3 rfl (by first | exact Nat.zero_add _ | rfl)) ?_
      refine s_yes rfl rfl (s_val rfl (v_load Tryz.isAgg3 rfl (cell_own rfl)) ?_)
      refine s_yes rfl rfl (s_do rfl (d_call Tryz.call251 rfl (cfGuest_spec W0 _ ⟨cats, some ⟨gg, og, none⟩, gc, gl, ra, rc, rl, pa, pc, pl, some ⟨g, o, none⟩, nc, nl, sa, sc, sl, gate, quota⟩ (k : Int))) ?_)
      rintro _ B_ ⟨rfl, hB_⟩
      obtain rfl := hB_.symm
      rw [hw2]
      refine s_yes rfl rfl (s_val rfl (v_not rfl) (s_val rfl (v_pick_f rfl rfl) (s_val rfl (v_move rfl) ?_)))
      refine s_or rfl rfl rfl ?_ ?_
      · intro g2_13
        exact absurd rfl g2_13
      · intro g2_13
        refine s_val rfl (v_fieldAddr rfl Tryz.underlying61 rfl Tryz.sizeOf3 rfl (by first | exact Nat.zero_add _ | rfl)) ?_
        refine s_yes rfl rfl (s_val rfl (v_load Tryz.isAgg3 rfl (cell_own rfl)) ?_)
        refine s_yes rfl rfl ?_
        refine s_val rfl (v_fieldAddr rfl Tryz.underlying61 rfl Tryz.sizeOf3 rfl (by first | exact Nat.zero_add _ | rfl)) ?_
        refine s_yes rfl rfl (s_val rfl (v_load Tryz.isAgg3 rfl (cell_own rfl)) ?_)
        refine s_yes rfl rfl (s_val rfl (v_eql rfl rfl) (s_val rfl (v_pick_f rfl rfl) (x_nil (n_then ?_))))
        refine x_if rfl ?_ ?_
        · intro c2
          refine x_seq (x_region (s_val rfl (v_assign rfl) (x_nil (n_then (x_ret (r_then (x_done (.inl rfl) (.cons (r_tmp rfl) .nil) ?_)))))))
          refine ⟨_, ⟨?_, rfl⟩, inferInstance⟩
          refine congrArg Value.bool ?_
          rw [Bool.eq_iff_iff]
          simp_all
        · intro c2
          refine x_skip (n_then (x_seq ?_))
          refine x_draw [(b1, 0, _), (bx, 0, _), (gg, og + j * 3, gsV u), (gg, og + k * 3, gsV v)] 17 mixed rfl (sc_own (sc_own (sc_cons hcj.weak (sc_cons hck.weak sc_end)))) (fun hS => ?_)
          refine d_take 0 rfl rfl (by kernel_rfl) (by kernel_rfl) (by kernel_rfl) rfl hS (v_fieldAddr rfl Tryz.underlying29 rfl Tryz.sizeOf23 rfl (by first | exact Nat.zero_add _ | rfl)) ?_
          refine d_take 1 rfl rfl (by kernel_rfl) (by kernel_rfl) (by kernel_rfl) rfl hS (v_load Tryz.isAgg23 rfl (by first | exact cell_sc0 (k := 0) rfl rfl | exact cell_sc0 (k := 1) rfl rfl | exact cell_sc0 (k := 2) rfl rfl | exact cell_sc0 (k := 3) rfl rfl)) ?_
          refine d_take 2 rfl rfl (by kernel_rfl) (by kernel_rfl) (by kernel_rfl) rfl hS (v_fieldAddr rfl Tryz.underlying61 rfl Tryz.sizeOf3 rfl (by first | exact Nat.zero_add _ | rfl)) ?_
          refine d_take 3 rfl rfl (by kernel_rfl) (by kernel_rfl) (by kernel_rfl) rfl hS (v_load Tryz.isAgg3 rfl (by first | exact cell_sc0 (k := 0) rfl rfl | exact cell_sc0 (k := 1) rfl rfl | exact cell_sc0 (k := 2) rfl rfl | exact cell_sc0 (k := 3) rfl rfl)) ?_
          refine d_take 4 rfl rfl (by kernel_rfl) (by kernel_rfl) (by kernel_rfl) rfl hS (v_idx Tryz.underlying23 Tryz.sizeOf85 rfl rfl rfl hj (by first | exact Nat.zero_add _ | rfl)) ?_
          refine d_take 5 rfl rfl (by kernel_rfl) (by kernel_rfl) (by kernel_rfl) rfl hS (v_fieldAddr rfl Tryz.underlying85 rfl Tryz.sizeOf3 rfl (by first | exact Nat.zero_add _ | rfl)) ?_
          refine d_take 6 rfl rfl (by kernel_rfl) (by kernel_rfl) (by kernel_rfl) rfl hS (v_load Tryz.isAgg3 rfl (cell_sc (k := 2) (j := 0) rfl rfl)) ?_
          refine d_take 7 rfl rfl (by kernel_rfl) (by kernel_rfl) (by kernel_rfl) rfl hS (v_fieldAddr rfl Tryz.underlying29 rfl Tryz.sizeOf23 rfl (by first | exact Nat.zero_add _ | rfl)) ?_
          refine d_take 8 rfl rfl (by kernel_rfl) (by kernel_rfl) (by kernel_rfl) rfl hS (v_load Tryz.isAgg23 rfl (by first | exact cell_sc0 (k := 0) rfl rfl | exact cell_sc0 (k := 1) rfl rfl | exact cell_sc0 (k := 2) rfl rfl | exact cell_sc0 (k := 3) rfl rfl)) ?_
          refine d_take 9 rfl rfl (by kernel_rfl) (by kernel_rfl) (by kernel_rfl) rfl hS (v_fieldAddr rfl Tryz.underlying61 rfl Tryz.sizeOf3 rfl (by first | exact Nat.zero_add _ | rfl)) ?_
          refine d_take 10 rfl rfl (by kernel_rfl) (by kernel_rfl) (by kernel_rfl) rfl hS (v_load Tryz.isAgg3 rfl (by first | exact cell_sc0 (k := 0) rfl rfl | exact cell_sc0 (k := 1) rfl rfl | exact cell_sc0 (k := 2) rfl rfl | exact cell_sc0 (k := 3) rfl rfl)) ?_
          refine d_take 11 rfl rfl (by kernel_rfl) (by kernel_rfl) (by kernel_rfl) rfl hS (v_idx Tryz.underlying23 Tryz.sizeOf85 rfl rfl rfl hk (by first | exact Nat.zero_add _ | rfl)) ?_
          refine d_take 12 rfl rfl (by kernel_rfl) (by kernel_rfl) (by kernel_rfl) rfl hS (v_fieldAddr rfl Tryz.underlying85 rfl Tryz.sizeOf3 rfl (by first | exact Nat.zero_add _ | rfl)) ?_
          refine d_take 13 rfl rfl (by kernel_rfl) (by kernel_rfl) (by kernel_rfl) rfl hS (v_load Tryz.isAgg3 rfl (cell_sc (k := 3) (j := 0) rfl rfl)) ?_
          refine d_one 14 (by kernel_rfl) rfl rfl (d_call Tryz.call254 rfl (lbFlows_spec W0 _ u.1 v.1)) rfl ?_; clear hS
          rintro _ B_ ⟨rfl, hB_⟩
          obtain rfl := hB_.symm
          refine ⟨(sc_own (sc_own (sc_cons hcj.weak (sc_cons hck.weak sc_end)))), fun hS => ?_⟩
          refine d_take 15 rfl rfl (by kernel_rfl) (by kernel_rfl) (by kernel_rfl) rfl hS (v_not rfl) ?_
          refine d_take 16 rfl rfl (by kernel_rfl) (by kernel_rfl) (by kernel_rfl) rfl hS (v_assign rfl) ?_
          refine d_done (by kernel_rfl) ?_; clear hS
          refine n_then (x_ret (x_done (.inl rfl) (.cons (r_tmp rfl) .nil) ?_))
          refine ⟨_, ⟨?_, rfl⟩, inferInstance⟩
          refine congrArg Value.bool ?_
          rw [Bool.eq_iff_iff]
          simp_all
  · have hW2 : rngW c (p, q) = true := by
      rw [hW]; cases w1 <;> cases w2 <;> simp_all
    rw [hW2]
    obtain ⟨cats, ga, gc, gl, ra, rc, rl, pa, pc, pl, na, nc, nl, sa, sc, sl, gate, quota⟩ := c
    dsimp only at hi hga hc hw1 hw2 ⊢
    subst hga
    refine spec_body Tryz.func253 Tryz.ntmps253 rfl rfl ?_
    refine x_seq (x_region (s_val rfl (v_assign rfl) (x_nil (n_then (x_seq (x_region ?_))))))
    refine s_val rfl (v_fieldAddr rfl Tryz.underlying29 rfl Tryz.sizeOf26 rfl (by first | exact Nat.zero_add _ | rfl)) ?_
    refine s_val rfl (v_load Tryz.isAgg26 rfl (cell_own rfl)) ?_
    refine s_val rfl (v_move rfl) ?_
    refine s_val rfl (v_idx Tryz.underlying26 Tryz.sizeOf61 rfl rfl rfl hi (by first | exact Nat.zero_add _ | rfl)) ?_
    refine s_val rfl (v_loadAgg Tryz.isAgg61 Tryz.sizeOf61 rfl hc.weak rfl) ?_
    refine s_do rfl (d_allocA Tryz.zeroValue61) ?_
    rintro _ _ ⟨bx, rfl, rfl⟩
    refine s_do0 (d_storeAll Tryz.sizeOf61 rfl rfl rfl rfl rfl) ?_
    rintro _ _ rfl
    refine x_nil (n_then (x_seq (x_seq (x_region (s_val rfl (v_loadAll Tryz.isAgg29 Tryz.sizeOf29 rfl rfl) ?_)))))
    refine s_val rfl (v_fieldAddr rfl Tryz.underlying61 rfl Tryz.sizeOf3 rfl (by first | exact Nat.zero_add _ | rfl)) ?_
    refine s_val rfl (v_load Tryz.isAgg3 rfl (cell_own rfl)) ?_
    refine s_do rfl (d_call Tryz.call251 rfl (cfGuest_spec W0 _ ⟨cats, ga, gc, gl, ra, rc, rl, pa, pc, pl, some ⟨g, o, none⟩, nc, nl, sa, sc, sl, gate, quota⟩ p)) ?_
    rintro _ B_ ⟨rfl, hB_⟩
    obtain rfl := hB_.symm
    rw [hw1]
    refine s_val rfl (v_not rfl) (s_val rfl (v_move rfl) ?_)
    refine s_or rfl rfl rfl ?_ ?_
    · intro g2_6
      refine s_no rfl rfl rfl rfl (s_no rfl rfl rfl rfl (s_no rfl rfl rfl rfl (s_no rfl rfl rfl rfl (s_val rfl (v_pick_t rfl rfl) (s_val rfl (v_move rfl) (s_no rfl rfl rfl rfl (s_no rfl rfl rfl rfl (s_no rfl rfl rfl rfl (s_no rfl rfl rfl rfl (s_no rfl rfl rfl rfl (s_val rfl (v_pick_t rfl rfl) (x_nil (n_then (x_ift rfl (x_seq (x_region (s_val rfl (v_assign rfl) (x_nil (n_then (x_ret (r_then (x_done (.inl rfl) (.cons (r_tmp rfl) .nil) ?_))))))))))))))))))))))
      exact ⟨_, ⟨rfl, rfl⟩, inferInstance⟩
    · intro g2_6
      refine s_val rfl (v_loadAll Tryz.isAgg29 Tryz.sizeOf29 rfl rfl) ?_
      refine s_yes rfl rfl ?_
      refine s_val rfl (v_fieldAddr rfl Tryz.underlying61 rfl Tryz.sizeOf3 rfl (by first | exact Nat.zero_add _ | rfl)) ?_
      refine s_yes rfl rfl (s_val rfl (v_load Tryz.isAgg3 rfl (cell_own rfl)) ?_)
      refine s_yes rfl rfl (s_do rfl (d_call Tryz.call251 rfl (cfGuest_spec W0 _ ⟨cats, ga, gc, gl, ra, rc, rl, pa, pc, pl, some ⟨g, o, none⟩, nc, nl, sa, sc, sl, gate, quota⟩ q)) ?_)
      rintro _ B_ ⟨rfl, hB_⟩
      obtain rfl := hB_.symm
      rw [hw2]
      refine s_yes rfl rfl (s_val rfl (v_not rfl) (s_val rfl (v_pick_f rfl rfl) (s_val rfl (v_move rfl) ?_)))
      refine s_or rfl rfl rfl ?_ ?_
      · intro g2_13
        refine s_no rfl rfl rfl rfl (s_no rfl rfl rfl rfl (s_no rfl rfl rfl rfl (s_no rfl rfl rfl rfl (s_val rfl (v_pick_t rfl rfl) (x_nil (n_then (x_ift rfl (x_seq (x_region (s_val rfl (v_assign rfl) (x_nil (n_then (x_ret (r_then (x_done (.inl rfl) (.cons (r_tmp rfl) .nil) ?_)))))))))))))))
        exact ⟨_, ⟨rfl, rfl⟩, inferInstance⟩
      · intro g2_13
        exfalso; cases w1 <;> cases w2 <;> simp_all
  ⟩
def riW (c : Cfg) : Bool := decide (4 < c.nl.length) || anyW (fun i => rngW c (c.nl.getD i (0, 0))) c.nl.length
theorem cfRings_spec (W0 : World) (R : List HP) (c : Cfg) (hs : ∀ A, SlA (OwnP W0 A) c.na 2 pairV c.nl) (hgs : ∀ A, SlA (OwnP W0 A) c.ga 3 gsV c.gl) :
    Spec Tryz.prog W0 116 [.agg (cfgV c).toArray] R (fun v B => ∃ r, v = .tuple #[.int .i64 r, .bool (riW c)] ∧ B = R) := by
  obtain ⟨w, hw⟩ : ∃ w, (fun i => rngW c (c.nl.getD i (0, 0))) = w := ⟨_, rfl⟩
  have hG : riW c = (decide (4 < c.nl.length) || anyW w c.nl.length) := by rw [riW, hw]
  refine spec_body Tryz.func116 Tryz.ntmps116 rfl rfl ?_
  refine x_seq (x_region (s_do rfl (d_boxA rfl) ?_))
  rintro _ _ ⟨b1, rfl, rfl⟩
  refine s_val rfl (v_assign rfl) (s_val rfl (v_assign rfl) (x_nil (n_then (x_seq (x_seq (x_region ?_))))))
  refine s_val rfl (v_fieldAddr rfl Tryz.underlying29 rfl Tryz.sizeOf26 rfl (by first | exact Nat.zero_add _ | rfl)) ?_
  refine s_val rfl (v_load Tryz.isAgg26 rfl (cell_own rfl)) ?_
  refine s_val rfl (v_len_slice Tryz.underlying26 rfl) (s_val rfl (v_gtr rfl rfl) (x_nil (n_then ?_)))
  refine x_if rfl ?_ ?_
  · intro c1
    refine x_seq (x_region (s_val rfl (v_assign rfl) (s_val rfl (v_assign rfl) (x_nil (n_then (x_ret (r_then (x_done (.inl rfl) (.cons (r_tmp rfl) (.cons (r_tmp rfl) .nil)) ?_))))))))
    rw [hG, decide_eq_true (by omega), Bool.true_or]
    exact ⟨_, ⟨0, rfl, rfl⟩, inferInstance⟩
  · intro c1
    refine x_skip (n_then (x_seq (x_region ?_)))
    refine s_val rfl (v_fieldAddr rfl Tryz.underlying29 rfl Tryz.sizeOf26 rfl (by first | exact Nat.zero_add _ | rfl)) ?_
    refine s_val rfl (v_load Tryz.isAgg26 rfl (cell_own rfl)) ?_
    refine s_val rfl (v_len_slice Tryz.underlying26 rfl) (s_val rfl (v_mkFunc rfl rfl) ?_)
    refine s_do rfl (d_call1 Tryz.call127 rfl (cfFirst1_spec W0 _ 253 [.pointer (some ⟨b1, 0, none⟩)] c.nl.length b1 _ w (hw ▸ rings1_wf W0 b1 c hs hgs) (by omega))) ?_
    rintro _ B_ ⟨r, rfl, hB_⟩
    obtain rfl := hB_.symm
    refine s_val rfl (v_extract rfl rfl) (s_val rfl (v_extract rfl rfl) (s_val rfl (v_assign rfl) (s_val rfl (v_assign rfl) (x_nil (n_then (x_ret (x_done (.inl rfl) (.cons (r_tmp rfl) (.cons (r_tmp rfl) .nil)) ?_)))))))
    rw [hG, decide_eq_false (by omega), Bool.false_or]
    exact ⟨_, ⟨r, rfl, rfl⟩, inferInstance⟩
end Go.Proofs.YtnidndllknffgaaGreat
namespace Go.Proofs.YtnidndllknffgaaGreat
open Go.RowKit
set_option linter.unusedSimpArgs false
set_option linter.unusedVariables false
set_option maxRecDepth 20000
def ndK (c : Cfg) : Nat → Int
  | 0 => (c.nl.length : Int)
  | i + 1 => ndK c i + ((c.gl.getD i (0, 0, 0)).2.1 + (c.gl.getD i (0, 0, 0)).2.2)
theorem ndK_le {c : Cfg} (hb : ∀ g ∈ c.gl, 1 ≤ g.2.1 ∧ g.2.1 ≤ 8 ∧ 0 ≤ g.2.2 ∧ g.2.2 ≤ 8 - g.2.1) (hn : c.nl.length ≤ 4) : ∀ i, i ≤ c.gl.length → 0 ≤ ndK c i ∧ ndK c i ≤ 4 + 8 * i
  | 0, _ => by rw [ndK]; omega
  | i + 1, hi => by
    obtain ⟨h1, h2⟩ := ndK_le hb hn i (by omega)
    have := hb _ (List.getElem_mem (show i < c.gl.length by omega))
    rw [ndK, show c.gl.getD i (0, 0, 0) = c.gl[i]'(by omega) by simp [List.getD, show i < c.gl.length by omega]]
    omega
theorem cfNeed_spec (W0 : World) (R : List HP) (c : Cfg) (hs : ∀ A, SlA (OwnP W0 A) c.ga 3 gsV c.gl) (hb : ∀ g ∈ c.gl, 1 ≤ g.2.1 ∧ g.2.1 ≤ 8 ∧ 0 ≤ g.2.2 ∧ g.2.2 ≤ 8 - g.2.1) (hn : c.nl.length ≤ 4) (hg : c.gl.length ≤ 4) :
    Spec Tryz.prog W0 119 [.agg (cfgV c).toArray] R (fun v B => v = .int .i64 (ndK c c.gl.length) ∧ B = R) := by
  have hle := ndK_le hb hn
  refine spec_body Tryz.func119 Tryz.ntmps119 rfl rfl ?_
  refine x_seq (x_region (s_do rfl (d_boxA rfl) ?_))
  rintro _ _ ⟨b1, rfl, rfl⟩
  refine s_val rfl (v_assign rfl) (x_nil (n_then (x_seq (x_region ?_))))
  refine s_val rfl (v_fieldAddr rfl Tryz.underlying29 rfl Tryz.sizeOf26 rfl (by first | exact Nat.zero_add _ | rfl)) ?_
  refine s_val rfl (v_load Tryz.isAgg26 rfl (cell_own rfl)) ?_
  refine s_val rfl (v_len_slice Tryz.underlying26 rfl) (s_val rfl (v_assign rfl) (x_nil (n_then (x_seq (x_seq (x_region ?_))))))
  refine s_val rfl (v_fieldAddr rfl Tryz.underlying29 rfl Tryz.sizeOf23 rfl (by first | exact Nat.zero_add _ | rfl)) ?_
  refine s_val rfl (v_load Tryz.isAgg23 rfl (cell_own rfl)) ?_
  refine s_val rfl (v_len_slice Tryz.underlying23 rfl) (s_val rfl (v_move rfl) (x_nil (n_then (x_block ?_))))
  refine x_loop (fun i : Nat => i ≤ c.gl.length) (fun i => [(3, .int .i64 (ndK c i)), (10, .slice c.ga c.gl.length c.gc), (11, .int .i64 (c.gl.length : Nat)), (12, .int .i64 (i : Nat))]) (fun _ => R) (fun i => c.gl.length - i) 0 ?_ ?_ ?_ ?_
  · exact Nat.zero_le _
  · repeat (first | exact sub_nil | refine sub_cons rfl ?_)
  · exact inferInstance
  · intro i hi
    refine x_seq (x_region (s_val rfl (v_lss rfl rfl) (x_nil (n_then (x_seq ?_)))))
    refine x_if rfl ?_ ?_
    · intro c3
      refine x_skip (n_then (x_seq (x_block (x_seq ?_))))
      have hi1 : i < c.gl.length := by omega
      obtain ⟨g, o, hga, hc⟩ := (hs R).at_ hi1
      obtain ⟨x, hx⟩ : ∃ x, c.gl[i] = x := ⟨_, rfl⟩
      rw [hx] at hc
      have hbx := hb _ (List.getElem_mem hi1)
      rw [hx] at hbx
      have hst : ndK c (i + 1) = ndK c i + (x.2.1 + x.2.2) := by rw [ndK, show c.gl.getD i (0, 0, 0) = x by simp [List.getD, hi1, hx]]
      have hl1 := hle i hi
      rw [hga]
      refine x_region ?_
      refine s_val rfl (v_idx Tryz.underlying23 Tryz.sizeOf85 rfl rfl rfl hi1 (by first | exact Nat.zero_add _ | rfl)) ?_
      refine s_val rfl (v_loadAgg Tryz.isAgg85 Tryz.sizeOf85 rfl hc.weak rfl) ?_
      refine s_do rfl (d_allocA Tryz.zeroValue85) ?_
      rintro _ _ ⟨bx, rfl, rfl⟩
      refine s_do0 (d_storeAll Tryz.sizeOf85 rfl rfl rfl rfl rfl) ?_
      rintro _ _ rfl
      refine x_nil (n_then (x_region (s_val rfl (v_move rfl) ?_)))
      refine s_val rfl (v_fieldAddr rfl Tryz.underlying85 rfl Tryz.sizeOf3 rfl (by first | exact Nat.zero_add _ | rfl)) ?_
      refine s_val rfl (v_load Tryz.isAgg3 rfl (cell_own rfl)) ?_
      refine s_val rfl (v_fieldAddr rfl Tryz.underlying85 rfl Tryz.sizeOf3 rfl (by first | exact Nat.zero_add _ | rfl)) ?_
      refine s_val rfl (v_load Tryz.isAgg3 rfl (cell_own rfl)) ?_
      refine s_val rfl (v_add rfl rfl (w64 (by omega))) ?_
      refine s_val rfl (v_add rfl rfl (by rw [w64 (by omega)]; exact hst.symm : IntKind.wrap .i64 (ndK c i + (x.2.1 + x.2.2)) = ndK c (i + 1))) ?_
      refine s_val rfl (v_assign rfl) (x_nil (n_block (n_then (x_region ?_))))
      refine s_val rfl (v_add rfl rfl (by first | exact w64 (by omega) | rfl)) ?_
      refine s_val rfl (v_move rfl) (x_nil (n_then ?_))
      refine inv_intro (i + 1) ?_ ?_ ?_ ?_
      · omega
      · omega
      · repeat (first | exact sub_nil | refine sub_cons rfl ?_)
      · exact inferInstance
    · intro c3
      refine x_exit (e_then (e_then (e_block (n_then (x_seq (x_region (s_val rfl (v_move rfl) (s_val rfl (v_assign rfl) (x_nil (n_then (x_ret (x_done (.inl rfl) (.cons (r_tmp rfl) .nil) ?_))))))))))))
      obtain rfl : i = c.gl.length := by omega
      exact ⟨_, ⟨rfl, rfl⟩, inferInstance⟩
end Go.Proofs.YtnidndllknffgaaGreat
namespace Go.Proofs.YtnidndllknffgaaGreat
open Go.RowKit
set_option linter.unusedSimpArgs false
set_option linter.unusedVariables false
section
variable {rd : Option Nat} {P : Program} {S : World → Prop} {W0 : World} {N : FSz} {Q : Exit → Act → World → Prop} {e : Env} {A B R R1 R2 : List HP} {ops : Array Oper} {rest : List Oper}
variable {op : Op} {ty t t' : TypeId} {pos : String} {af : Array Edge} {v u : Value} {d b off : Nat} {x y z : Operand} {l l' vs : List Value}
theorem zeroCells_lenI {z : Array Value} {n : Nat} : (Builtin.zeroCells z n).toList.length = n * z.size := by simp [Builtin.zeroCells]
theorem d_appendMk {E sz n k c by_ : Nat} {info : TypeInfo} {zz : Value} {an : Option Addr} {olds : List Value} {kk : Int} {kq kn : IntKind} (hu : P.underlying t = some (.slice E)) (htn : P.underlying t' = some (.int kn))
    (hi : P.info? E = some info) (hz : info.zero = some zz) (hsz : info.size = sz) (hby : info.bytes = by_) (hz1 : zz.cells.size = sz) (hsz0 : 0 < sz)
    (hx : ev e x = some (.slice an n c)) (hy : ev e y = some (.int kq kk)) (hk : kk = (k : Int)) (hold : (an = none ∧ olds = []) ∨ ∃ bx ox, an = some ⟨bx, ox, none⟩ ∧ Cells (OwnP W0 A) bx ox olds) (hol : olds.length = n * sz)
    (h0 : 0 < k) (hg : c < n + k) (h63 : n + k ≤ maxLen) (hbig : (n + k) * by_ ≤ 140737488355328) :
    Does P W0 N e A (.call { callee := .builtin .append, args := #[x, y], argTypes := #[t, t'] }) (fun v B => ∃ a' c' zs, v = .slice a' (n + k) c' ∧ zs.length = k * sz ∧ B = osl E sz v (olds ++ zs) :: A) := does_run fun a w dst ty pos af g hF hO => by
  subst hk
  subst hsz
  subst hby
  have hsmall : n + k ≤ 9223372036854775807 := by simp only [maxLen] at h63; omega
  have hfc : (Builtin.firstCells info.size n (.slice an n c)).run P w.drew = .ok olds.toArray w.drew := by
    rcases hold with ⟨rfl, rfl⟩ | ⟨bx, ox, rfl, hc⟩
    · simp [Builtin.firstCells]
    · exact run_firstCells_some (P := P) w.drew info.size n ⟨bx, ox, none⟩ n c olds hol (fun j u hj => by
        have := hc j u hj w hO
        simpa [add_none] using this)
  have hbk : k * info.bytes ≤ 281474976710656 := by
    have := Nat.mul_le_mul_right info.bytes (show k ≤ n + k by omega); omega
  have hr := Go.Lib.run_append_grow_zeros (P := P) w t t' ty E info zz kq kn hu htn hi hz an n c olds hfc k h0 hsz0 hg (by omega) hbk (growslice_fits (by omega) hbig)
  have hge := grownCap_ge w (n + k) c E
  have hcm := grownCap_le_maxLen w (n + k) c E h63
  have hnew := (Own.drew hO (w.drawn + 1)).new (cob ((olds ++ (Builtin.zeroCells zz.cells k).toList) ++ (Builtin.zeroCells zz.cells (grownCap w (n + k) c E - (n + k))).toList) E)
  have ea : ((olds ++ (Builtin.zeroCells zz.cells k).toList) ++ (Builtin.zeroCells zz.cells (grownCap w (n + k) c E - (n + k))).toList).toArray = olds.toArray ++ Builtin.zeroCells zz.cells k ++ Builtin.zeroCells zz.cells (grownCap w (n + k) c E - (n + k)) := by apply Array.ext'; simp
  refine ⟨_, { ({ w with drawn := w.drawn + 1 } : World) with heap := w.heap.push (cob ((olds ++ (Builtin.zeroCells zz.cells k).toList) ++ (Builtin.zeroCells zz.cells (grownCap w (n + k) c E - (n + k))).toList) E) }, _, .inl ?_, ⟨some ⟨w.heap.size, 0, none⟩, grownCap w (n + k) c E, (Builtin.zeroCells zz.cells k).toList, rfl, by rw [zeroCells_lenI, hz1], rfl⟩, ?_⟩
  · simp only [execOp, resolve, invoke, builtin, Sem.run_bind, Sem.run_pure, Result.andThen_ok, List.map_toArray, List.map_cons, List.map_nil, hF.eval hx, hF.eval hy, hr]
    simp only [World.drew, World.alloc, cob, ea]
  · refine hnew.ent ?_
    exact @ent_osl _ A A E info.size w.heap.size (n + k) (grownCap w (n + k) c E) (olds ++ (Builtin.zeroCells zz.cells k).toList) _ _ hge hcm (by rw [List.length_append, hol, zeroCells_lenI, hz1, Nat.add_mul]) (by
      rw [List.length_append, List.length_append, hol, zeroCells_lenI, zeroCells_lenI, hz1, ← Nat.add_mul, ← Nat.add_mul]; congr 1; omega) _
theorem v_ext {f : FuncId} {xs : Array Operand} {ats : Array TypeId} (hx : evs e xs.toList = some vs) (hc : ∀ w, S w → (callFunc f vs.toArray).run P w = .ok (.value v) w) : Val P S N e (.call { callee := .value (.func f), args := xs, argTypes := ats }) v := fun a w dst ty pos af g hF hO => by
  rw [execOp_call_go]
  have he : (#[] ++ xs.map a.eval ++ #[] : Array Value) = vs.toArray := by
    have := hF.evals hx
    rw [← this]; apply Array.ext'; simp
  rw [he, hc w hO]
theorem v_cap {n c : Nat} {a : Option Addr} (hu : P.underlying t = some (.slice d)) (hx : ev e x = some (.slice a n c)) : Val P S N e (.call { callee := .builtin .cap, args := #[x], argTypes := #[t] }) (.int .i64 (c : Nat)) := fun act w _ _ _ _ _ hF _ => by
  simp [execOp, resolve, invoke, builtin, hF.eval hx, Builtin.cap_, run_und hu, goInt]
theorem setR_mid {p q s r : List Value} (h : q.length = r.length) : setR (p ++ q ++ s) p.length r = p ++ r ++ s := by
  rw [setR_eq _ _ _ (by simp only [List.length_append]; omega), ← h, List.append_assoc p q s, List.take_left, ← List.drop_drop, List.drop_left, List.drop_left]
theorem cells_fst {g o : Nat} {l1 l2 : List Value} (h : Cells S g o (l1 ++ l2)) : Cells S g o l1 := fun i v hi => h i v (by
  rw [List.getElem?_append_left (by
    rcases Nat.lt_or_ge i l1.length with q | q
    · exact q
    · rw [List.getElem?_eq_none q] at hi; cases hi)]
  exact hi)
theorem cells_snd {g o : Nat} {l1 l2 : List Value} (h : Cells S g o (l1 ++ l2)) : Cells S g (o + l1.length) l2 := fun i v hi => by
  rw [Nat.add_assoc]
  exact h (l1.length + i) v (by rw [List.getElem?_append_right (by omega), Nat.add_sub_cancel_left]; exact hi)
theorem cells_mid {l1 l2 l3 : List Value} {o : Nat} [h : Tk pt b A (cob l ty) R] (hl : l = l1 ++ l2 ++ l3) (ho : l1.length = o) : Cells (OwnP W0 A) b o l2 := by
  subst ho
  have h0 : Cells (OwnP W0 A) b 0 (l1 ++ l2) := cells_fst (l2 := l3) (by rw [← hl]; exact cells_all (ty := ty) (R := R) (h := h))
  have := cells_snd h0
  rwa [Nat.zero_add] at this
theorem ovl_apart {E sz : Nat} {tS tR ba ga na ca nb cb oa ob : Nat} {la lb : List Value} {ta tb : TypeId} (ht : P.underlying tS = some (.slice E)) (hz : ∀ w, (sizeOf E).run P w = .ok sz w) [h1 : Tk pt ba A (cob la ta) R1] [h2 : Tk pt ga R1 (cob lb tb) R2] (hla : oa ≤ la.length) (hlb : 0 < lb.length) {w : World} (hO : Own W0 w A) :
    (Extern.SlicesOverlaps.overlaps #[tS, tS] #[tR] #[.slice (some ⟨ba, oa, none⟩) na ca, .slice (some ⟨ga, ob, none⟩) nb cb]).run P w = .ok (.bool false) w := by
  have hO1 := hO.tk (r := pt) (b := ba)
  have ha := hO1.has.2
  have hO2 := (hO1.drop).tk (r := pt) (b := ga)
  have hb := hO2.has.2
  have hne : ba ≠ ga := by
    intro q; subst q
    have hO3 : Own W0 w (pt ba (cob la ta) :: pt ba (cob lb tb) :: R2) := hO1.perm (h2.perm.cons _)
    obtain ⟨ls, ⟨l1, l2, rfl, e1, l3, l4, rfl, e2, _⟩, hn, _⟩ := hO3.owns
    cases e1; cases e2
    simp at hn
  refine Go.Lib.run_overlaps_apart w tS tR E ht sz hz ⟨ba, oa, none⟩ ⟨ga, ob, none⟩ na ca nb cb hne ta tb la.length lb.length ?_ ?_ (by omega) ?_ ?_
  · simp [World.shape?, ha]
  · simp [World.shape?, hb]
  · simp [World.frozen?, ha]
  · simp [World.frozen?, ha]
end
end Go.Proofs.YtnidndllknffgaaGreat
namespace Go.Proofs.YtnidndllknffgaaGreat
open Go.RowKit
set_option linter.unusedVariables false
class NOut (Q : Exit → Act → World → Prop) : Prop where
  no : ∀ a w, ¬ Q .outgrown a w
instance nout_then {n : Act → World → Prop} {Q : Exit → Act → World → Prop} [h : NOut Q] : NOut (Exit.then n Q) := ⟨fun a w k => h.no a w k⟩
instance nout_block {id : Nat} {Q : Exit → Act → World → Prop} [h : NOut Q] : NOut (Exit.inBlock id Q) := ⟨fun a w k => h.no a w k⟩
instance nout_scope {Q : Exit → Act → World → Prop} [h : NOut Q] : NOut (Exit.noGoto Q) := ⟨fun a w k => h.no a w k⟩
instance nout_round {P : Program} {W0 : World} {L : Nat} {Post : Value → List HP → Prop} : NOut (RoundQ P W0 L Post) := ⟨fun a w k => k⟩
instance nout_false : NOut (fun _ _ _ => False) := ⟨fun a w k => k⟩
instance pok_round {P : Program} {W0 : World} {L : Nat} {Post : Value → List HP → Prop} : POk (RoundQ P W0 L Post) := ⟨fun c a d v w k => k.elim⟩
instance pok_false : POk (fun _ _ _ => False) := ⟨fun c a d v w k => k⟩
section
variable {rd : Option Nat} {P : Program} {W0 : World} {N : FSz} {Q : Exit → Act → World → Prop} {e : Env} {A : List HP} {ops : Array Oper} {S : World → Prop}
theorem wpAnyIn_of_held (hp : plainR rd ops.toList = true) (hq : NOut Q) : ∀ (fuel : Nat) (listed : Array Bool) (a : Act) (w : World), wpAnyH P .any ops Q S fuel listed a w → wpAnyIn (FW rd) 0 P .any ops Q fuel listed a w
  | 0, _, _, _, h => h
  | fuel + 1, listed, a, w, h => ⟨h.1, fun i hi => by
    have h2 := h.2 i hi
    unfold wpOp at h2
    unfold wpOpIn
    cases ho : ops[i]? with
    | none =>
      rw [ho] at h2
      exact wpAnyIn_of_held hp hq fuel _ a w h2.2
    | some o =>
      rw [ho] at h2
      simp only at h2 ⊢
      split at h2
      · rename_i hwant
        rw [if_pos hwant]
        rcases h2 with h2 | ⟨_, a', w', h3⟩
        · have hsem : o.semAt (FW rd).round a.eval = execOp a.eval o := by
            cases rd with
            | none => rfl
            | some l =>
              refine Oper.semAt_eq _ _ _ (opPlain_spec ?_)
              simp only [plainR, Option.isNone_some, Bool.false_or, List.all_eq_true] at hp
              exact hp _ (by
                obtain ⟨hlt, rfl⟩ := Array.getElem?_eq_some_iff.1 ho
                simp)
          refine ⟨fun _ _ => trivial, ?_⟩
          rw [hsem]
          exact upon_in (fun a' w' h' => wpAnyIn_of_held hp hq fuel _ a' w' h'.2) h2
        · exact absurd h3 (hq.no a' w')
      · rename_i hwant
        rw [if_neg hwant]
        exact ⟨fun _ _ => trivial, wpAnyIn_of_held hp hq fuel _ _ w h2.2⟩⟩
theorem x_drawR {id : Nat} (cs : List (Nat × Nat × List Value)) (n : Nat) (hm : P.follows .mixedOrders = true) (hn : Nat.beq ops.size n = true) [hq : NOut Q] (hS : ∀ w, Own W0 w A → SC cs w) (k : (∀ w, Own W0 w A → SC cs w) → Run W0 N (DR P ops Q cs n (Array.replicate n false)) e A) (hp : plainR rd ops.toList = true := by rfl) : Run W0 N ((Code.region id ops true).wpR rd P Q) e A := by
  intro a w hF hO
  have : ops.size = n := Nat.eq_of_beq_eq_true hn
  subst this
  exact wpIn_region_any hm (wpAnyIn_of_held hp hq _ _ _ _ (k hS a _ hF (hO.drew _)))
end
end Go.Proofs.YtnidndllknffgaaGreat
namespace Go.Proofs.YtnidndllknffgaaGreat
open Go.RowKit
set_option linter.unusedSimpArgs false
set_option linter.unusedVariables false
set_option maxRecDepth 20000
abbrev Rn := Int × Int × Int
def rnV (x : Rn) : List Value := [.int .i64 x.1, .int .i64 x.2.1, .int .i64 x.2.2]
theorem rnV_len (x : Rn) : (rnV x).length = 3 := rfl
theorem rnV_one (x : Rn) : allOne (rnV x) = true := by simp [rnV, allOne, Value.oneCell']
theorem rns_one (l : List Rn) : allOne (l.flatMap rnV) = true := by
  induction l with
  | nil => rfl
  | cons x l ih =>
    rw [List.flatMap_cons, allOne, List.all_append, Bool.and_eq_true]
    exact ⟨rnV_one x, ih⟩
@[reducible] def tbO (a : Option Addr) (k c : Nat) (n : Int) : Obj := cob [.slice a k c, .int .i64 n, .bool true] 494
def tabH (b : Nat) (x : List Rn × Int) : HP := chk (fun C => ∃ a c, C = [pt b (tbO a x.1.length c x.2), osl 498 3 (.slice a x.1.length c) (x.1.flatMap rnV)])
section
variable {W0 : World} {N : FSz} {K : Act → World → Prop} {e : Env} {A B R R1 R2 : List HP} {b n c : Nat} {x : List Rn × Int}
theorem run_tab [hk : Tk tabH b A x R] (h : ∀ a c, Run W0 N K e (pt b (tbO a x.1.length c x.2) :: osl 498 3 (.slice a x.1.length c) (x.1.flatMap rnV) :: R)) : Run W0 N K e A :=
  run_tk (r := tabH) (b := b) (run_chk fun C hC => by obtain ⟨a, c, rfl⟩ := hC; exact h a c)
theorem ent_tab {rs : List Rn} {k m : Nat} {nn : Int} {a : Option Addr} {ys : List Value} [h1 : Tk pt b A (tbO a k m nn) R1] [h2 : Tk (osl 498 3) (.slice a k m) R1 ys R2] (hk : k = rs.length) (hy : ys = rs.flatMap rnV) [q : Ent R2 B] : Ent A (tabH b (rs, nn) :: B) := by
  subst hk; subst hy
  exact (Ent.ofPerm (h1.perm.trans (h2.perm.cons _))).trans ((ent_chk (R := R2) (C := [_, _]) ⟨a, m, rfl⟩).trans (Ent.cons q))
theorem cells_rw {α : Type} {E sz g c i : Nat} {f : α → List Value} {xs : List α} {x : α} {ys : List Value} [h : Tk (osl E sz) (.slice (some ⟨g, 0, none⟩) n c) A ys R] (hy : ys = xs.flatMap f) (hf : ∀ x, (f x).length = sz) (hz : 0 < sz) (hx : xs[i]? = some x) : Cells (OwnP W0 A) g (i * sz) (f x) := by
  obtain ⟨b, off, e1, hc⟩ := sla_cells (S := OwnP W0 A) (a := some ⟨g, 0, none⟩) (.inr ⟨g, rfl⟩) (cells_osl (E := E) (sz := sz) (n := n) (c := c) (ys := ys)) hf hy hz i x hx
  cases e1
  rw [Nat.zero_add] at hc; exact hc
end
theorem paAll1_spec (W0 : World) (b1 bt L : Nat) (rs : List Rn) (n : Int) (a : Option Addr) (c : Nat) (hl : rs.length ≤ 1000) (C : Nat → List HP) (I : Nat → Prop) (h0 : I 0) (Stop : List HP → Prop)
    (hr : ∀ i R, i < rs.length → I i → Rounds Tryz.prog W0 L [.int .i64 (i : Nat), .agg (rnV (rs.getD i (0, 0, 0))).toArray] (C i ++ R) (fun v B => ∃ b B', v = .bool b ∧ B = B' ++ R ∧ ((b = true ∧ I (i + 1) ∧ B' = C (i + 1)) ∨ (b = false ∧ Stop B')))) :
    Spec Tryz.prog W0 388 [.func (.yield L) #[] #[], .pointer (some ⟨b1, 0, none⟩)] (pt b1 (cob [.pointer (some ⟨bt, 0, none⟩)] 410) :: pt bt (tbO a rs.length c n) :: osl 498 3 (.slice a rs.length c) (rs.flatMap rnV) :: C 0)
      (fun v B => v = .tuple #[] ∧ ∃ B', B = pt bt (tbO a rs.length c n) :: osl 498 3 (.slice a rs.length c) (rs.flatMap rnV) :: B' ∧ ((I rs.length ∧ B' = C rs.length) ∨ Stop B')) := by
  refine spec_body Tryz.func388 Tryz.ntmps388 rfl rfl ?_
  refine x_seq (x_region (s_val rfl (v_load Tryz.isAgg410 rfl (cell_own rfl)) ?_))
  refine s_val rfl (v_nilCheck rfl) ?_
  refine s_val rfl (v_fieldAddr rfl Tryz.underlying494 rfl Tryz.sizeOf492 rfl (by first | exact Nat.zero_add _ | rfl)) ?_
  refine s_val rfl (v_load Tryz.isAgg492 rfl (cell_own rfl)) ?_
  refine s_val rfl (v_len_slice Tryz.underlying492 rfl) (s_val rfl (v_move rfl) (x_nil (n_then (x_block ?_))))
  refine x_loop (fun i : Nat => i ≤ rs.length ∧ I i) (fun i => [(0, .func (.yield L) #[] #[]), (8, .slice a rs.length c), (9, .int .i64 (rs.length : Nat)), (10, .int .i64 (i : Nat))]) (fun i => pt bt (tbO a rs.length c n) :: osl 498 3 (.slice a rs.length c) (rs.flatMap rnV) :: C i) (fun i => rs.length - i) 0 ?_ ?_ ?_ ?_
  · exact ⟨Nat.zero_le _, h0⟩
  · repeat (first | exact sub_nil | refine sub_cons rfl ?_)
  · exact inferInstance
  · intro i ⟨hi, hI⟩
    refine x_seq (x_region (s_val rfl (v_lss rfl rfl) (x_nil (n_then (x_seq ?_)))))
    refine x_if rfl ?_ ?_
    · intro c1
      refine x_skip (n_then (x_seq (x_block (x_seq ?_))))
      have hi1 : i < rs.length := by omega
      have hgi : rs[i]? = some (rs.getD i (0, 0, 0)) := by simp [List.getD, hi1]
      refine run_form (E := 498) (sz := 3) (a := a) (c := c) (n := rs.length) (ys := rs.flatMap rnV) (fun hf => ?_)
      obtain ⟨g, rfl⟩ := form_some hf (by rw [← List.length_pos_iff, flat_len rnV_len]; omega)
      refine x_region (s_val rfl (v_move rfl) ?_)
      refine s_val rfl (v_idx Tryz.underlying492 Tryz.sizeOf498 rfl rfl rfl hi1 (by first | exact Nat.zero_add _ | rfl)) ?_
      refine s_val rfl (v_loadAgg Tryz.isAgg498 Tryz.sizeOf498 rfl (cells_rw (f := rnV) (E := 498) (sz := 3) (n := rs.length) (c := c) rfl rnV_len (by decide) hgi) rfl) ?_
      refine s_do rfl (d_allocA Tryz.zeroValue498) ?_
      rintro _ _ ⟨b1, rfl, rfl⟩
      refine s_val rfl (v_assign rfl) (s_do0 (d_storeAll Tryz.sizeOf498 rfl rfl rfl rfl rfl) ?_)
      rintro _ _ rfl
      refine x_nil (n_then (x_seq (x_region (s_val rfl (v_move rfl) (s_val rfl (v_move rfl) (s_val rfl (v_loadAll Tryz.isAgg498 Tryz.sizeOf498 rfl rfl) ?_))))))
      refine s_yield rfl rfl rfl (rounds_perm (List.perm_append_comm (l₁ := [_, _, _])) (hr i [_, _, _] hi1 hI)) ?_
      rintro _ B_ ⟨b, B', rfl, hB_, hb⟩
      obtain rfl := hB_.symm
      refine run_perm List.perm_append_comm ?_
      simp only [List.cons_append, List.nil_append]
      refine s_val rfl (v_not rfl) (x_nil (n_then ?_))
      refine x_if rfl ?_ ?_
      · intro c3
        have hs : Stop B' := by
          rcases hb with h | h
          · exact absurd c3 (by rw [h.1]; decide)
          · exact h.2
        refine x_ret (r_block (r_then (r_then (r_block (x_done (.inl rfl) .nil ?_)))))
        exact ⟨_, ⟨rfl, _, rfl, .inr hs⟩, inferInstance⟩
      · intro c3
        have hs : I (i + 1) ∧ B' = C (i + 1) := by
          rcases hb with h | h
          · exact h.2
          · exact absurd (by rw [h.1]; decide) c3
        obtain ⟨hI', rfl⟩ := hs
        refine x_skip (n_block (n_then (x_region ?_)))
        refine s_val rfl (v_add rfl rfl (by first | exact w64 (by omega) | rfl)) ?_
        refine s_val rfl (v_move rfl) (x_nil (n_then ?_))
        refine inv_intro (i + 1) ?_ ?_ ?_ ?_
        · exact ⟨by omega, hI'⟩
        · omega
        · repeat (first | exact sub_nil | refine sub_cons rfl ?_)
        · exact inferInstance
    · intro c1
      refine x_exit (e_then (e_then (e_block (x_done (.inr rfl) .nil ?_))))
      obtain rfl : i = rs.length := by omega
      exact ⟨_, ⟨rfl, _, rfl, .inl ⟨hI, rfl⟩⟩, inferInstance⟩
theorem paAll_spec (W0 : World) (R : List HP) (bt : Nat) :
    Spec Tryz.prog W0 358 [.pointer (some ⟨bt, 0, none⟩)] R (fun v B => ∃ b1, v = .func (.func 388) #[] #[.pointer (some ⟨b1, 0, none⟩)] ∧ B = pt b1 (cob [.pointer (some ⟨bt, 0, none⟩)] 410) :: R) := by
  refine spec_body Tryz.func358 Tryz.ntmps358 rfl rfl ?_
  refine x_seq (x_region (s_do rfl (d_box rfl rfl) ?_))
  rintro _ _ ⟨b1, rfl, rfl⟩
  refine s_val rfl (v_assign rfl) (x_nil (n_then (x_seq (x_region (s_val rfl (v_mkFunc rfl rfl) ?_)))))
  refine s_val rfl (v_assign rfl) (x_nil (n_then (x_ret (x_done (.inl rfl) (.cons (r_tmp rfl) .nil) ?_))))
  exact ⟨_, ⟨b1, rfl, rfl⟩, inferInstance⟩
theorem all_range {W0 : World} {A : List HP} {e : Env} {n' L D b1 bt c : Nat} {n : Int} {a : Option Addr} {ps' : Array Tmp} {asg body : Code} (pe : Code) {Go Stop : List HP → Prop} (rs : List Rn) (hl : rs.length ≤ 1000) (Ct : Nat → List HP) (I : Nat → Prop) (St : List HP → Prop)
    (hp : A.Perm (pt b1 (cob [.pointer (some ⟨bt, 0, none⟩)] 410) :: pt bt (tbO a rs.length c n) :: osl 498 3 (.slice a rs.length c) (rs.flatMap rnV) :: Ct 0)) (h0 : I 0)
    (hgo : I rs.length → Go (pt bt (tbO a rs.length c n) :: osl 498 3 (.slice a rs.length c) (rs.flatMap rnV) :: Ct rs.length))
    (hst : ∀ B', St B' → Stop (pt bt (tbO a rs.length c n) :: osl 498 3 (.slice a rs.length c) (rs.flatMap rnV) :: B'))
    (hrd : ∀ i R', i < rs.length → I i → Rounds Tryz.prog W0 L [.int .i64 (i : Nat), .agg (rnV (rs.getD i (0, 0, 0))).toArray] (recH L ⟨e, n', ps', asg, body, .ready, none, D⟩ :: pt D (.deferred (some [])) :: (Ct i ++ R'))
      (fun v B => (v = .bool true ∧ I (i + 1) ∧ B = recH L ⟨e, n', ps', asg, body, .ready, none, D⟩ :: pt D (.deferred (some [])) :: (Ct (i + 1) ++ R')) ∨
        (v = .bool false ∧ ∃ B', St B' ∧ B = recH L ⟨e, n', ps', asg, body, .done, some pe, D⟩ :: pt D (.deferred (some [])) :: (B' ++ R')))) :
    Spec Tryz.prog W0 388 (.func (.yield L) #[] #[] :: [.pointer (some ⟨b1, 0, none⟩)]) (recH L ⟨e, n', ps', asg, body, .ready, none, D⟩ :: pt D (.deferred (some [])) :: A)
      (fun _ B => (∃ C, B = recH L ⟨e, n', ps', asg, body, .ready, none, D⟩ :: pt D (.deferred (some [])) :: C ∧ Go C) ∨ (∃ C, B = recH L ⟨e, n', ps', asg, body, .done, some pe, D⟩ :: pt D (.deferred (some [])) :: C ∧ Stop C)) := by
  have hperm : (recH L ⟨e, n', ps', asg, body, .ready, none, D⟩ :: pt D (.deferred (some [])) :: A).Perm (pt b1 (cob [.pointer (some ⟨bt, 0, none⟩)] 410) :: pt bt (tbO a rs.length c n) :: osl 498 3 (.slice a rs.length c) (rs.flatMap rnV) :: (recH L ⟨e, n', ps', asg, body, .ready, none, D⟩ :: pt D (.deferred (some [])) :: Ct 0)) :=
    ((hp.cons _).cons _).trans (List.perm_append_comm_assoc [_, _] [_, _, _] (Ct 0))
  refine spec_perm hperm (spec_post (paAll1_spec W0 b1 bt L rs n a c hl (fun i => recH L ⟨e, n', ps', asg, body, .ready, none, D⟩ :: pt D (.deferred (some [])) :: Ct i) I h0
    (fun B => ∃ B', St B' ∧ B = recH L ⟨e, n', ps', asg, body, .done, some pe, D⟩ :: pt D (.deferred (some [])) :: B') fun i R hat hI w hO => ?_) ?_)
  · obtain ⟨f, tmps, as_, bd, hy, hR⟩ := hrd i R hat hI w hO
    refine ⟨f, tmps, as_, bd, hy, RoundIn.mono hR ?_⟩
    rintro _ w' ⟨v, B, rfl, hB, hO'⟩
    rcases hB with ⟨rfl, hI', rfl⟩ | ⟨rfl, B', hS, rfl⟩
    · exact ⟨_, _, rfl, ⟨true, _, rfl, rfl, .inl ⟨rfl, hI', rfl⟩⟩, hO'⟩
    · exact ⟨_, _, rfl, ⟨false, recH L ⟨e, n', ps', asg, body, .done, some pe, D⟩ :: pt D (.deferred (some [])) :: B', rfl, rfl, .inr ⟨rfl, B', hS, rfl⟩⟩, hO'⟩
  · rintro v B ⟨_, B0, rfl, ⟨hI, rfl⟩ | ⟨B', hS, rfl⟩⟩
    · exact ⟨_, .inl ⟨_, rfl, hgo hI⟩, Ent.ofPerm (List.perm_append_comm_assoc [_, _] [_, _] (Ct rs.length))⟩
    · exact ⟨_, .inr ⟨_, rfl, hst B' hS⟩, Ent.ofPerm (List.perm_append_comm_assoc [_, _] [_, _] B')⟩
theorem paEnd_spec (W0 : World) (R : List HP) (x : Rn) (h : -1000 ≤ x.1 + x.2.1 ∧ x.1 + x.2.1 ≤ 1000) : Spec Tryz.prog W0 359 [.agg (rnV x).toArray] R (fun v B => v = .int .i64 (x.1 + x.2.1) ∧ B = R) := by
  refine spec_body Tryz.func359 Tryz.ntmps359 rfl rfl ?_
  refine x_seq (x_region (s_do rfl (d_boxA rfl) ?_))
  rintro _ _ ⟨b1, rfl, rfl⟩
  refine s_val rfl (v_assign rfl) (x_nil (n_then (x_seq (x_region ?_))))
  refine s_val rfl (v_fieldAddr rfl Tryz.underlying498 rfl Tryz.sizeOf3 rfl (by first | exact Nat.zero_add _ | rfl)) ?_
  refine s_val rfl (v_load Tryz.isAgg3 rfl (cell_own rfl)) ?_
  refine s_val rfl (v_fieldAddr rfl Tryz.underlying498 rfl Tryz.sizeOf3 rfl (by first | exact Nat.zero_add _ | rfl)) ?_
  refine s_val rfl (v_load Tryz.isAgg3 rfl (cell_own rfl)) ?_
  refine s_val rfl (v_add rfl rfl (w64 (by omega))) ?_
  refine s_val rfl (v_assign rfl) (x_nil (n_then (x_ret (x_done (.inl rfl) (.cons (r_tmp rfl) .nil) ?_))))
  exact ⟨_, ⟨rfl, rfl⟩, inferInstance⟩
def mtA : List Rn → Int → Nat
  | [], _ => 0
  | x :: l, f => if x.1 + x.2.1 ≤ f then mtA l f + 1 else 0
def mtH (rs : List Rn) (f n : Int) : Bool := match rs[mtA rs f]? with
  | some x => decide (x.1 < f + n)
  | none => false
theorem mtA_eq : ∀ (rs : List Rn) (f : Int) (i : Nat), i ≤ rs.length → (∀ j (hj : j < rs.length), j < i → rs[j].1 + rs[j].2.1 ≤ f) → (∀ h : i < rs.length, ¬ rs[i].1 + rs[i].2.1 ≤ f) → mtA rs f = i
  | [], f, i, h, _, _ => by simp at h; rw [mtA, h]
  | x :: l, f, 0, _, _, h2 => by
    have := h2 (by simp)
    rw [mtA, if_neg (by simpa using this)]
  | x :: l, f, i + 1, h, h1, h2 => by
    have h0 := h1 0 (by simp) (by omega)
    rw [mtA, if_pos (by simpa using h0), mtA_eq l f i (by simpa using h) (fun j hj hji => by
      have := h1 (j + 1) (by simpa using hj) (by omega)
      simpa using this) (fun hi => by
      have := h2 (by simpa using hi)
      simpa using this)]
theorem mtA_le : ∀ (rs : List Rn) (f : Int), mtA rs f ≤ rs.length
  | [], f => Nat.le_refl _
  | x :: l, f => by
    have := mtA_le l f
    rw [mtA]; split
    · simpa using this
    · exact Nat.zero_le _
def TbOk (rs : List Rn) : Prop := ∀ x ∈ rs, 0 ≤ x.1 ∧ 1 ≤ x.2.1 ∧ x.1 + x.2.1 ≤ 64 ∧ 0 ≤ x.2.2 ∧ x.2.2 < 64
theorem TbOk.get {rs : List Rn} (h : TbOk rs) {i : Nat} (hi : i < rs.length) : 0 ≤ (rs.getD i (0, 0, 0)).1 ∧ 1 ≤ (rs.getD i (0, 0, 0)).2.1 ∧ (rs.getD i (0, 0, 0)).1 + (rs.getD i (0, 0, 0)).2.1 ≤ 64 ∧ 0 ≤ (rs.getD i (0, 0, 0)).2.2 ∧ (rs.getD i (0, 0, 0)).2.2 < 64 := by
  rw [show rs.getD i (0, 0, 0) = rs[i] by simp [List.getD, hi]]; exact h _ (List.getElem_mem hi)
theorem paNone_spec (W0 : World) (R : List HP) (b k c : Nat) (a : Option Addr) (n : Int) : Spec Tryz.prog W0 335 [.pointer (some ⟨b, 0, none⟩)] (pt b (tbO a k c n) :: R) (fun v B => v = .bool false ∧ B = pt b (tbO a k c n) :: R) := by
  refine spec_body Tryz.func335 Tryz.ntmps335 rfl rfl ?_
  refine x_seq (x_region (s_val rfl (v_assign rfl) (x_nil (n_then (x_seq (x_region (s_val rfl (v_move rfl) (s_val rfl (v_eql_ptr_nil Tryz.underlying410 rfl rfl) (s_val rfl (v_move rfl) ?_)))))))))
  refine s_or rfl rfl rfl ?_ ?_
  · intro g1_3
    cases g1_3
  · intro g1_3
    refine s_val rfl (v_move rfl) (s_yes rfl rfl (s_val rfl (v_nilCheck rfl) (s_yes rfl rfl ?_)))
    refine s_val rfl (v_fieldAddr rfl Tryz.underlying494 rfl Tryz.sizeOf4 rfl (by first | exact Nat.zero_add _ | rfl)) ?_
    refine s_yes rfl rfl (s_val rfl (v_load Tryz.isAgg4 rfl (cell_own rfl)) ?_)
    refine s_yes rfl rfl (s_val rfl (v_not rfl) (s_val rfl (v_pick_f rfl rfl) (s_val rfl (v_assign rfl) (x_nil (n_then (x_ret (x_done (.inl rfl) (.cons (r_tmp rfl) .nil) ?_)))))))
    exact ⟨_, ⟨rfl, rfl⟩, inferInstance⟩
theorem paNew_spec (W0 : World) (R : List HP) (n : Int) (h : 0 ≤ n ∧ n ≤ 64) : Spec Tryz.prog W0 247 [.int .i64 n] R (fun v B => ∃ b, v = .tuple #[.pointer (some ⟨b, 0, none⟩), .int .i64 0] ∧ B = tabH b ([], n) :: R) := by
  refine spec_body Tryz.func247 Tryz.ntmps247 rfl rfl ?_
  refine x_seq (x_region (s_val rfl (v_assign rfl) (s_val rfl (v_assign rfl) (x_nil (n_then (x_seq (x_seq (x_region (s_val rfl (v_move rfl) (s_val rfl (v_lss rfl rfl) (s_val rfl (v_move rfl) ?_)))))))))))
  refine s_or rfl rfl rfl ?_ ?_
  · intro g1_3
    omega
  · intro g1_3
    refine s_val rfl (v_move rfl) (s_yes rfl rfl (s_val rfl (v_gtr rfl rfl) (s_val rfl (v_pick_f rfl rfl) (x_nil (n_then ?_)))))
    refine x_if rfl ?_ ?_
    · intro c1
      omega
    · intro c1
      refine x_skip (n_then (x_seq (x_region (s_val rfl (v_move rfl) (s_val rfl (v_build Tryz.underlying494 Tryz.zeroValue494 (sized_cons Tryz.sizeOf492 (sized_cons Tryz.sizeOf3 (sized_cons Tryz.sizeOf4 sized_nil))) (fil_scal rfl Tryz.sizeOf3 rfl rfl (Nat.le_of_ble_eq_true rfl) SetL.eq (fil_scal rfl Tryz.sizeOf4 rfl rfl (Nat.le_of_ble_eq_true rfl) SetL.eq fil_nil))) ?_)))))
      refine s_do rfl (d_boxA rfl) ?_
      rintro _ _ ⟨b1, rfl, rfl⟩
      refine s_val rfl (v_assign rfl) (s_val rfl (v_assign rfl) (x_nil (n_then (x_ret (x_done (.inl rfl) (.cons (r_tmp rfl) (.cons (r_tmp rfl) .nil)) ?_)))))
      refine ⟨_, ⟨b1, rfl, rfl⟩, ?_⟩
      exact (Ent.cons (ent_osl_nil (E := 498) (sz := 3) (B := R))).trans (ent_tab (rs := []) rfl rfl)
theorem paMeets_spec (W0 : World) (R : List HP) (bt c : Nat) (rs : List Rn) (n : Int) (a : Option Addr) (hok : TbOk rs) (hl : rs.length ≤ 1000) (f k : Int) (hf : 0 ≤ f ∧ f ≤ 64 ∧ 1 ≤ k ∧ k ≤ 64) :
    Spec Tryz.prog W0 336 [.pointer (some ⟨bt, 0, none⟩), .int .i64 f, .int .i64 k] (pt bt (tbO a rs.length c n) :: osl 498 3 (.slice a rs.length c) (rs.flatMap rnV) :: R)
      (fun v B => v = .tuple #[.int .i64 (mtA rs f : Nat), .bool (mtH rs f k)] ∧ B = pt bt (tbO a rs.length c n) :: osl 498 3 (.slice a rs.length c) (rs.flatMap rnV) :: R) := by
  refine spec_body Tryz.func336 Tryz.ntmps336 rfl rfl ?_
  refine x_seq (x_region (s_do rfl (d_box rfl rfl) ?_))
  rintro _ _ ⟨bf, rfl, rfl⟩
  refine s_do rfl (d_box rfl rfl) ?_
  rintro _ _ ⟨bk, rfl, rfl⟩
  refine s_val rfl (v_assign rfl) (s_val rfl (v_assign rfl) (x_nil (n_then (x_scope (x_seq (x_region (s_val rfl (v_move rfl) (s_val rfl (v_nilCheck rfl) ?_))))))))
  refine s_val rfl (v_fieldAddr rfl Tryz.underlying494 rfl Tryz.sizeOf492 rfl (by first | exact Nat.zero_add _ | rfl)) ?_
  refine s_val rfl (v_load Tryz.isAgg492 rfl (cell_own rfl)) ?_
  refine s_val rfl (v_len_slice Tryz.underlying492 rfl) (s_do rfl (d_alloc Tryz.zeroValue3 rfl) ?_)
  rintro _ _ ⟨ba, rfl, rfl⟩
  refine s_do rfl (d_alloc Tryz.zeroValue4 rfl) ?_
  rintro _ _ ⟨bh, rfl, rfl⟩
  refine s_do0 (d_store Tryz.sizeOf3 rfl rfl rfl (Nat.le_of_ble_eq_true rfl) SetL.eq) ?_
  rintro _ _ rfl
  refine s_do0 (d_store Tryz.sizeOf4 rfl rfl rfl (Nat.le_of_ble_eq_true rfl) SetL.eq) ?_
  rintro _ _ rfl
  refine x_nil (n_then (x_seq (x_label (n_then (x_seq (x_seq (x_region (s_val rfl (v_move rfl) (s_do rfl (d_call Tryz.call358 rfl (paAll_spec W0 _ bt)) ?_)))))))))
  rintro _ B_ ⟨b1, rfl, hB_⟩
  obtain rfl := hB_.symm
  refine x_nil (n_then (x_block ?_))
  refine x_rangeFuncE 0 (fun C => (∀ j, j < rs.length → (rs.getD j (0, 0, 0)).1 + (rs.getD j (0, 0, 0)).2.1 ≤ f) ∧ C = pt bt (tbO a rs.length c n) :: osl 498 3 (.slice a rs.length c) (rs.flatMap rnV) :: pt bh (cob [.bool false] 4) :: pt ba (cob [.int .i64 (rs.length : Nat)] 3) :: pt bk (cob [.int .i64 k] 3) :: pt bf (cob [.int .i64 f] 3) :: R) (fun C => ∃ i, i < rs.length ∧ (∀ j, j < i → (rs.getD j (0, 0, 0)).1 + (rs.getD j (0, 0, 0)).2.1 ≤ f) ∧ (¬ (rs.getD i (0, 0, 0)).1 + (rs.getD i (0, 0, 0)).2.1 ≤ f) ∧ C = pt bt (tbO a rs.length c n) :: osl 498 3 (.slice a rs.length c) (rs.flatMap rnV) :: pt bh (cob [.bool (decide ((rs.getD i (0, 0, 0)).1 < f + k))] 4) :: pt ba (cob [.int .i64 (i : Nat)] 3) :: pt bk (cob [.int .i64 k] 3) :: pt bf (cob [.int .i64 f] 3) :: R) rfl Tryz.call388 ?_ ?_ ?_
  · intro L D
    refine all_range (.exit 0) rs hl (fun _ => pt bh (cob [.bool false] 4) :: pt ba (cob [.int .i64 (rs.length : Nat)] 3) :: pt bk (cob [.int .i64 k] 3) :: pt bf (cob [.int .i64 f] 3) :: R) (fun i => ∀ j, j < i → (rs.getD j (0, 0, 0)).1 + (rs.getD j (0, 0, 0)).2.1 ≤ f) (fun B => ∃ i, i < rs.length ∧ (∀ j, j < i → (rs.getD j (0, 0, 0)).1 + (rs.getD j (0, 0, 0)).2.1 ≤ f) ∧ (¬ (rs.getD i (0, 0, 0)).1 + (rs.getD i (0, 0, 0)).2.1 ≤ f) ∧ B = pt bh (cob [.bool (decide ((rs.getD i (0, 0, 0)).1 < f + k))] 4) :: pt ba (cob [.int .i64 (i : Nat)] 3) :: pt bk (cob [.int .i64 k] 3) :: pt bf (cob [.int .i64 f] 3) :: R) ((perm3 (r1 := pt) (b1 := b1) (r2 := pt) (b2 := bt) (r3 := osl 498 3) (b3 := .slice a rs.length c)).trans (List.Perm.refl _)) (fun j hj => absurd hj (Nat.not_lt_zero j)) (fun h => ⟨h, rfl⟩) (fun B' h => by obtain ⟨i, h1, h2, h3, rfl⟩ := h; exact ⟨i, h1, h2, h3, rfl⟩) ?_
    intro i R' hi hI
    have hx := hok.get hi
    obtain ⟨x, hxe⟩ : ∃ x, rs.getD i (0, 0, 0) = x := ⟨_, rfl⟩
    rw [hxe] at hx ⊢
    simp only [List.cons_append, List.nil_append]
    refine rounds_intro rfl rfl ?_
    refine x_seq (x_region (s_val rfl (v_assign rfl) (x_nil (n_then (x_region (s_do rfl (d_allocA Tryz.zeroValue498) ?_))))))
    rintro _ _ ⟨bd, rfl, rfl⟩
    refine s_do0 (d_storeAll Tryz.sizeOf498 rfl rfl rfl rfl rfl) ?_
    rintro _ _ rfl
    refine x_nil (n_begin rfl ?_)
    refine x_block (x_seq (x_block (x_seq ?_)))
    refine x_drawR [(bd, 0, _), (bf, 0, _)] 5 mixed rfl (sc_own (sc_own sc_end)) (fun hS => ?_)
    refine d_take 0 rfl rfl (by kernel_rfl) (by kernel_rfl) (by kernel_rfl) rfl hS (v_loadAgg Tryz.isAgg498 Tryz.sizeOf498 rfl (by first | exact cells_sc (k := 0) rfl | exact cells_sc (k := 1) rfl) rfl) ?_
    refine d_take 2 rfl rfl (by kernel_rfl) (by kernel_rfl) (by kernel_rfl) rfl hS (v_load Tryz.isAgg3 rfl (by first | exact cell_sc0 (k := 0) rfl rfl | exact cell_sc0 (k := 1) rfl rfl)) ?_
    refine d_one 1 (by kernel_rfl) rfl rfl (d_call Tryz.call359 rfl (paEnd_spec W0 _ x (by omega))) rfl ?_; clear hS
    rintro _ B_ ⟨rfl, hB_⟩
    obtain rfl := hB_.symm
    refine ⟨(sc_own (sc_own sc_end)), fun hS => ?_⟩
    refine d_take 3 rfl rfl (by kernel_rfl) (by kernel_rfl) (by kernel_rfl) rfl hS (v_leq rfl rfl) ?_
    refine d_take 4 rfl rfl (by kernel_rfl) (by kernel_rfl) (by kernel_rfl) rfl hS (v_assign rfl) ?_
    refine d_done (by kernel_rfl) ?_; clear hS
    refine n_then ?_
    refine x_if rfl ?_ ?_
    · intro c5
      refine x_exit (e_block_ne rfl (e_then (e_block (r_go ?_))))
      have hI' : ∀ j, j < i + 1 → (rs.getD j (0, 0, 0)).1 + (rs.getD j (0, 0, 0)).2.1 ≤ f := fun j hj => by
        rcases Nat.lt_or_ge j i with q | q
        · exact hI j q
        · obtain rfl : j = i := by omega
          rw [hxe]; exact c5
      exact ⟨_, .inl ⟨rfl, hI', rfl⟩, inferInstance⟩
    · intro c5
      refine x_seq (x_region ?_)
      refine s_val rfl (v_fieldAddr rfl Tryz.underlying498 rfl Tryz.sizeOf3 rfl (by first | exact Nat.zero_add _ | rfl)) ?_
      refine s_val rfl (v_load Tryz.isAgg3 rfl (cell_own rfl)) ?_
      refine s_val rfl (v_load Tryz.isAgg3 rfl (cell_own rfl)) ?_
      refine s_val rfl (v_load Tryz.isAgg3 rfl (cell_own rfl)) ?_
      refine s_val rfl (v_add rfl rfl (w64 (by omega))) ?_
      refine s_val rfl (v_lss rfl rfl) (s_val rfl (v_assign rfl) (x_nil (n_then ?_)))
      refine x_if rfl ?_ ?_
      · intro c6
        refine x_region (s_do0 (d_store Tryz.sizeOf4 rfl rfl rfl (Nat.le_of_ble_eq_true rfl) SetL.eq) ?_)
        rintro _ _ rfl
        refine x_nil (n_block (n_then (x_seq (x_region (s_val rfl (v_move rfl) (s_do0 (d_store Tryz.sizeOf3 rfl rfl rfl (Nat.le_of_ble_eq_true rfl) SetL.eq) ?_))))))
        rintro _ _ rfl
        refine x_nil (n_then (x_exit (e_block_ne rfl (r_exit ?_))))
        refine ⟨_, .inr ⟨rfl, _, ⟨i, hi, hI, by rw [hxe]; exact c5, rfl⟩, rfl⟩, ?_⟩
        simp only [List.cons_append]
        rw [hxe]
        first
          | (rw [decide_eq_true c6]; exact inferInstance)
          | (rw [decide_eq_false c6]; exact inferInstance)
      · intro c6
        refine x_skip (n_block (n_then (x_seq (x_region (s_val rfl (v_move rfl) (s_do0 (d_store Tryz.sizeOf3 rfl rfl rfl (Nat.le_of_ble_eq_true rfl) SetL.eq) ?_))))))
        rintro _ _ rfl
        refine x_nil (n_then (x_exit (e_block_ne rfl (r_exit ?_))))
        refine ⟨_, .inr ⟨rfl, _, ⟨i, hi, hI, by rw [hxe]; exact c5, rfl⟩, rfl⟩, ?_⟩
        simp only [List.cons_append]
        rw [hxe]
        first
          | (rw [decide_eq_true c6]; exact inferInstance)
          | (rw [decide_eq_false c6]; exact inferInstance)
  · intro D C hC
    obtain ⟨hall, rfl⟩ := hC
    have hA : mtA rs f = rs.length := mtA_eq rs f rs.length (Nat.le_refl _) (fun j hj _ => by have := hall j hj; rwa [show rs.getD j (0, 0, 0) = rs[j] by simp [List.getD, hj]] at this) (fun h => absurd h (Nat.lt_irrefl _))
    have hH : mtH rs f k = false := by rw [mtH, hA, List.getElem?_eq_none (Nat.le_refl _)]
    refine n_block (n_then (x_seq ?_))
    refine x_draw [(ba, 0, _), (bh, 0, _)] 4 mixed rfl (sc_own (sc_own sc_end)) (fun hS => ?_)
    refine d_take 0 rfl rfl (by kernel_rfl) (by kernel_rfl) (by kernel_rfl) rfl hS (v_load Tryz.isAgg3 rfl (by first | exact cell_sc0 (k := 0) rfl rfl | exact cell_sc0 (k := 1) rfl rfl)) ?_
    refine d_take 1 rfl rfl (by kernel_rfl) (by kernel_rfl) (by kernel_rfl) rfl hS (v_load Tryz.isAgg4 rfl (by first | exact cell_sc0 (k := 0) rfl rfl | exact cell_sc0 (k := 1) rfl rfl)) ?_
    refine d_take 2 rfl rfl (by kernel_rfl) (by kernel_rfl) (by kernel_rfl) rfl hS (v_assign rfl) ?_
    refine d_take 3 rfl rfl (by kernel_rfl) (by kernel_rfl) (by kernel_rfl) rfl hS (v_assign rfl) ?_
    refine d_done (by kernel_rfl) ?_; clear hS
    refine n_then (x_ret (r_scope (x_doneM (.inl rfl) (.cons (r_tmp rfl) (.cons (r_tmp rfl) .nil)) ?_)))
    rw [hA, hH]
    exact ⟨_, ⟨rfl, rfl⟩, inferInstance⟩
  · intro D C hC
    obtain ⟨i, hi, h1, h2, rfl⟩ := hC
    have hgi : rs.getD i (0, 0, 0) = rs[i] := by simp [List.getD, hi]
    have hA : mtA rs f = i := mtA_eq rs f i (by omega) (fun j hj hji => by have := h1 j hji; rwa [show rs.getD j (0, 0, 0) = rs[j] by simp [List.getD, hj]] at this) (fun h => by rw [← hgi]; exact h2)
    have hH : mtH rs f k = decide ((rs.getD i (0, 0, 0)).1 < f + k) := by rw [mtH, hA, List.getElem?_eq_getElem hi, hgi]
    refine e_block (n_then (x_seq ?_))
    refine x_draw [(ba, 0, _), (bh, 0, _)] 4 mixed rfl (sc_own (sc_own sc_end)) (fun hS => ?_)
    refine d_take 0 rfl rfl (by kernel_rfl) (by kernel_rfl) (by kernel_rfl) rfl hS (v_load Tryz.isAgg3 rfl (by first | exact cell_sc0 (k := 0) rfl rfl | exact cell_sc0 (k := 1) rfl rfl)) ?_
    refine d_take 1 rfl rfl (by kernel_rfl) (by kernel_rfl) (by kernel_rfl) rfl hS (v_load Tryz.isAgg4 rfl (by first | exact cell_sc0 (k := 0) rfl rfl | exact cell_sc0 (k := 1) rfl rfl)) ?_
    refine d_take 2 rfl rfl (by kernel_rfl) (by kernel_rfl) (by kernel_rfl) rfl hS (v_assign rfl) ?_
    refine d_take 3 rfl rfl (by kernel_rfl) (by kernel_rfl) (by kernel_rfl) rfl hS (v_assign rfl) ?_
    refine d_done (by kernel_rfl) ?_; clear hS
    refine n_then (x_ret (r_scope (x_doneM (.inl rfl) (.cons (r_tmp rfl) (.cons (r_tmp rfl) .nil)) ?_)))
    rw [hA, hH]
    exact ⟨_, ⟨rfl, rfl⟩, inferInstance⟩
end Go.Proofs.YtnidndllknffgaaGreat
namespace Go.Proofs.YtnidndllknffgaaGreat
open Go.RowKit
set_option linter.unusedSimpArgs false
set_option linter.unusedVariables false
set_option maxRecDepth 20000
theorem cloneRn_spec (W0 : World) (R : List HP) (l : List Rn) (a : Option Addr) (n c : Nat) (hl : l.length = n) (hN : n ≤ 1000) (hs : SlA (OwnP W0 R) a 3 rnV l) :
    Spec Tryz.prog W0 338 [.slice a n c] R
      (fun v B => ∃ a' c', v = .slice a' n c' ∧ B = osl 498 3 (.slice a' n c') (l.flatMap rnV) :: R) := by
  subst hl
  refine spec_body Tryz.func338 Tryz.ntmps338 rfl rfl ?_
  refine x_seq (x_region (s_val rfl (v_assign rfl) (x_nil (n_then (x_seq (x_seq (x_region (s_val rfl (v_move rfl) (s_val rfl (v_eql_slice_nil Tryz.underlying492 rfl rfl) (x_nil (n_then ?_)))))))))))
  refine x_if rfl ?_ ?_
  · intro c1
    refine x_seq (x_region (s_val rfl (v_assign rfl) (x_nil (n_then (x_ret (r_then (x_done (.inl rfl) (.cons (r_tmp rfl) .nil) ?_)))))))
    have h0 : l = [] := by
      rcases l with _ | ⟨x, l⟩
      · rfl
      · obtain ⟨b, o, h, _⟩ := hs 0 x rfl
        rw [c1] at h; cases h
    subst h0
    exact ⟨_, ⟨none, 0, rfl, rfl⟩, ent_osl_nil⟩
  · intro c1
    have hsrc := hs.src (fun _ => rfl) (fun _ => trivial)
    refine x_skip (n_then (x_seq (x_region (s_do rfl (d_slice0 Tryz.underlying492 Tryz.sizeOf498 rfl) ?_))))
    rintro _ _ ⟨b1, rfl, rfl⟩
    refine s_val rfl (v_move rfl) ?_
    refine s_do rfl (d_appendS (sz := 3) (by_ := 24) (info := Tryz.t498) Tryz.underlying492 (by kernel_rfl) rfl rfl rfl rfl (by decide) rfl rfl (news := l.flatMap rnV) (by
  rcases hsrc with h | ⟨bs, os, h1, h2⟩
  · left; rw [h]; rfl
  · right; exact ⟨bs, os, h1, h2.weak⟩) (by rw [flat_len rnV_len]) (rns_one l) (by simp only [maxLen]; omega) (by omega)) ?_
    rintro _ _ ⟨a1, c1, rfl, rfl⟩
    refine s_val rfl (v_assign rfl) (x_nil (n_then (x_ret (x_done (.inl rfl) (.cons (r_tmp rfl) .nil) ?_))))
    rw [Nat.zero_add, List.nil_append]
    exact ⟨_, ⟨a1, c1, rfl, rfl⟩, inferInstance⟩
def rnIns (rs : List Rn) (i : Nat) (x : Rn) : List Rn := rs.take i ++ x :: rs.drop i
theorem rnIns_flat (rs : List Rn) (i : Nat) (x : Rn) : (rnIns rs i x).flatMap rnV = (rs.take i).flatMap rnV ++ rnV x ++ (rs.drop i).flatMap rnV := by
  rw [rnIns, List.flatMap_append, List.flatMap_cons, List.append_assoc]
theorem rnIns_len {rs : List Rn} {i : Nat} (x : Rn) (hi : i ≤ rs.length) : (rnIns rs i x).length = rs.length + 1 := by
  rw [rnIns, List.length_append, List.length_cons, List.length_take, List.length_drop]; omega
theorem rn_split (rs : List Rn) (i : Nat) : rs.flatMap rnV = (rs.take i).flatMap rnV ++ (rs.drop i).flatMap rnV := by rw [← List.flatMap_append, List.take_append_drop]
theorem insRn_spec (W0 : World) (R : List HP) (rs : List Rn) (a : Option Addr) (c bv : Nat) (x : Rn) (i : Nat) (hi : i ≤ rs.length) (hl : rs.length ≤ 1000) :
    Spec Tryz.prog W0 337 [.slice a rs.length c, .int .i64 (i : Nat), .slice (some ⟨bv, 0, none⟩) 1 1] (osl 498 3 (.slice a rs.length c) (rs.flatMap rnV) :: pt bv (cob (rnV x) 498) :: R)
      (fun v B => ∃ a' c', v = .slice a' (rs.length + 1) c' ∧ B = osl 498 3 (.slice a' (rs.length + 1) c') ((rnIns rs i x).flatMap rnV) :: R) := by
  have hLt : ((rs.take i).flatMap rnV).length = i * 3 := by rw [flat_len rnV_len, List.length_take, Nat.min_eq_left hi]
  have hLd : ((rs.drop i).flatMap rnV).length = (rs.length - i) * 3 := by rw [flat_len rnV_len, List.length_drop]
  have hLr : (rs.flatMap rnV).length = rs.length * 3 := flat_len rnV_len rs
  refine spec_body Tryz.func337 Tryz.ntmps337 rfl rfl ?_
  refine x_seq ?_
  refine run_cap (E := 498) (sz := 3) (a := a) (c := c) (n := rs.length) (fun hcap => ?_)
  refine x_region (s_val rfl (v_assign rfl) (x_nil (n_then (x_seq (x_region (s_val rfl (v_move rfl) (s_val rfl (v_move rfl) (s_val rfl (v_sliceLg Tryz.underlying492 Tryz.sizeOf498 rfl (i := i) rfl rfl hi rfl) ?_))))))))
  refine x_nil (n_then (x_seq (x_region (s_val rfl (v_move rfl) (s_val rfl (v_len_slice Tryz.underlying492 rfl) (s_val rfl (v_assign rfl) (x_nil (n_then (x_seq (x_seq (x_region (s_val rfl (v_move rfl) (s_val rfl (v_eql rfl rfl) (x_nil (n_then ?_)))))))))))))))
  refine x_if rfl ?_ ?_
  · intro c3
    exact absurd c3 (by decide)
  · intro c3
    refine x_skip (n_then (x_seq (x_region (s_val rfl (v_move rfl) (s_val rfl (v_len_slice Tryz.underlying492 rfl) (s_val rfl (v_assign rfl) (x_nil (n_then (x_seq (x_seq (x_region (s_val rfl (v_move rfl) (s_val rfl (v_move rfl) (s_val rfl (v_eql rfl rfl) (x_nil (n_then ?_))))))))))))))))
    refine x_if rfl ?_ ?_
    · intro c6
      refine x_seq (x_region (s_val rfl (v_move rfl) (s_val rfl (v_move rfl) ?_)))
      refine s_do rfl (d_append (sz := 3) (by_ := 24) (info := Tryz.t498) Tryz.underlying492 (by kernel_rfl) rfl rfl rfl rfl (by decide) rfl rfl cells_all rfl rfl (by simp only [maxLen]; omega) (by omega)) ?_
      rintro _ _ ⟨a1, c1, rfl, rfl⟩
      refine s_val rfl (v_assign rfl) (x_nil (n_then (x_ret (r_then (x_done (.inl rfl) (.cons (r_tmp rfl) .nil) ?_)))))
      obtain rfl : i = rs.length := by omega
      refine ⟨_, ⟨a1, c1, rfl, rfl⟩, ?_⟩
      rw [rnIns_flat, List.take_of_length_le (Nat.le_refl _), List.drop_length, List.flatMap_nil, List.append_nil]
      exact inferInstance
    · intro c6
      have hi1 : i < rs.length := by omega
      refine run_tk (r := osl 498 3) (b := .slice a rs.length c) (run_osl (fun h1 h2 => by rw [h2] at hLr; simp at hLr; omega) fun g n' cap sp h1 h2 h3 h4 h5 => ?_)
      cases h1
      refine x_skip (n_then (x_seq (x_seq (x_region (s_val rfl (v_move rfl) (s_val rfl (v_move rfl) ?_))))))
      refine s_val rfl (v_add rfl rfl (by rw [w64 (by omega)]; omega : IntKind.wrap .i64 ((rs.length : Int) + ((1 : Nat) : Int)) = ((rs.length + 1 : Nat) : Int))) ?_
      refine s_val rfl (v_move rfl) (s_val rfl (v_cap Tryz.underlying492 rfl) ?_)
      refine s_val rfl (v_gtr rfl rfl) (x_nil (n_then ?_))
      refine x_if rfl ?_ ?_
      · intro c8
        refine x_seq (x_region (s_val rfl (v_move rfl) (s_val rfl (v_move rfl) ?_)))
        refine s_val rfl (v_sliceH Tryz.underlying492 Tryz.sizeOf498 rfl rfl rfl (by omega)) ?_
        refine s_val rfl (v_move rfl) (s_val rfl (v_move rfl) ?_)
        refine s_val rfl (v_add rfl rfl (by rw [w64 (by omega)]; omega : IntKind.wrap .i64 ((rs.length : Int) + ((1 : Nat) : Int)) = ((rs.length + 1 : Nat) : Int))) ?_
        refine s_val rfl (v_move rfl) ?_
        refine s_val rfl (v_sub rfl rfl (by rw [w64 (by omega)]; omega : IntKind.wrap .i64 (((rs.length + 1 : Nat) : Int) - (i : Int)) = ((rs.length + 1 - i : Nat) : Int))) ?_
        refine s_do rfl (d_appendMk (sz := 3) (by_ := 24) (info := Tryz.t498) (k := rs.length + 1 - i) (olds := (rs.take i).flatMap rnV) Tryz.underlying492 Tryz.underlying3 (by kernel_rfl) rfl rfl rfl rfl (by decide) rfl rfl rfl (.inr ⟨g, 0, rfl, cells_fst (l2 := (rs.drop i).flatMap rnV ++ sp) (by rw [← List.append_assoc, ← rn_split]; exact cells_all (b := g))⟩) hLt (by omega) (by omega) (by simp only [maxLen]; omega) (by omega)) ?_
        rintro _ _ ⟨a9, k9, zs, rfl, hzs, rfl⟩
        rw [show i + (rs.length + 1 - i) = rs.length + 1 by omega]
        refine run_tk (r := osl 498 3) (b := .slice a9 (rs.length + 1) k9) (run_osl (fun q1 q2 => by
          have := congrArg List.length q2
          rw [List.length_append, hLt, hzs] at this; simp at this; omega) fun g9 n9 cap9 sp9 q1 q2 q3 q4 q5 => ?_)
        cases q1
        refine s_val rfl (v_assign rfl) (x_nil (n_then (x_seq (x_region (s_val rfl (v_move rfl) (s_val rfl (v_move rfl) ?_))))))
        refine s_val rfl (v_sliceLg Tryz.underlying492 Tryz.sizeOf498 rfl (i := i) (a' := some ⟨g9, i * 3, none⟩) rfl rfl (by omega) (by rw [sliA, if_neg (by omega)]; simp [add_none])) ?_
        refine s_val rfl (v_move rfl) ?_
        refine s_do rfl (d_copy Tryz.underlying492 Tryz.sizeOf498 rfl rfl (m := 1) (vs := rnV x) (Nat.min_eq_left (by omega)) (cells_all (b := bv)) rfl (rnV_one x) (by rw [List.length_append, List.length_append, hLt, hzs]; omega) rfl) ?_
        rintro _ B_ ⟨rfl, hB_⟩
        obtain rfl := hB_.symm
        refine x_nil (n_then (x_seq ?_))
        refine x_draw [] 9 mixed rfl sc_end (fun hS => ?_)
        refine d_take 0 rfl rfl (by kernel_rfl) (by kernel_rfl) (by kernel_rfl) rfl hS (v_move rfl) ?_
        refine d_take 1 rfl rfl (by kernel_rfl) (by kernel_rfl) (by kernel_rfl) rfl hS (v_move rfl) ?_
        refine d_take 2 rfl rfl (by kernel_rfl) (by kernel_rfl) (by kernel_rfl) rfl hS (v_move rfl) ?_
        refine d_take 3 rfl rfl (by kernel_rfl) (by kernel_rfl) (by kernel_rfl) rfl hS (v_add rfl rfl (by rw [w64 (by omega)]; omega : IntKind.wrap .i64 ((i : Int) + ((1 : Nat) : Int)) = ((i + 1 : Nat) : Int))) ?_
        refine d_take 4 rfl rfl (by kernel_rfl) (by kernel_rfl) (by kernel_rfl) rfl hS (v_sliceLg Tryz.underlying492 Tryz.sizeOf498 rfl (i := i + 1) (a' := some ⟨g9, (i + 1) * 3, none⟩) rfl rfl (by omega) (by rw [sliA, if_neg (by omega)]; simp [add_none])) ?_
        refine d_take 5 rfl rfl (by kernel_rfl) (by kernel_rfl) (by kernel_rfl) rfl hS (v_move rfl) ?_
        refine d_take 6 rfl rfl (by kernel_rfl) (by kernel_rfl) (by kernel_rfl) rfl hS (v_move rfl) ?_
        refine d_take 7 rfl rfl (by kernel_rfl) (by kernel_rfl) (by kernel_rfl) rfl hS (v_sliceLg Tryz.underlying492 Tryz.sizeOf498 rfl (i := i) (a' := some ⟨g, i * 3, none⟩) rfl rfl (by omega) (by rw [sliA, if_neg (by omega)]; simp [add_none])) ?_
        refine d_one 8 (by kernel_rfl) rfl rfl (d_copy Tryz.underlying492 Tryz.sizeOf498 rfl rfl (m := rs.length - i) (vs := (rs.drop i).flatMap rnV) (Nat.min_eq_left (by omega)) (cells_mid (b := g) (l1 := (rs.take i).flatMap rnV) (l3 := sp) (by rw [← rn_split]) hLt) hLd (rns_one _) (by rw [setR_length, List.length_append, List.length_append, hLt, hzs]; omega) rfl) rfl ?_; clear hS
        rintro _ B_ ⟨rfl, hB_⟩
        obtain rfl := hB_.symm
        refine ⟨sc_end, fun hS => ?_⟩
        refine d_done (by kernel_rfl) ?_; clear hS
        refine n_then (x_seq (x_region (s_val rfl (v_move rfl) (s_val rfl (v_assign rfl) (x_nil (n_then (x_ret (r_then (x_done (.inl rfl) (.cons (r_tmp rfl) .nil) ?_)))))))))
        obtain ⟨z1, z2, rfl, hz1⟩ : ∃ z1 z2, zs = z1 ++ z2 ∧ z1.length = 3 := ⟨zs.take 3, zs.drop 3, (List.take_append_drop 3 zs).symm, by rw [List.length_take]; omega⟩
        have hz2 : z2.length = (rs.length - i) * 3 := by rw [List.length_append] at hzs; omega
        have hL : setR (setR ((rs.take i).flatMap rnV ++ (z1 ++ z2) ++ sp9) (i * 3) (rnV x)) ((i + 1) * 3) ((rs.drop i).flatMap rnV) = (rnIns rs i x).flatMap rnV ++ sp9 := by
          rw [rnIns_flat, ← hLt, show (rs.take i).flatMap rnV ++ (z1 ++ z2) ++ sp9 = (rs.take i).flatMap rnV ++ z1 ++ (z2 ++ sp9) by simp, setR_mid (by rw [hz1]; rfl)]
          have e : (i + 1) * 3 = ((rs.take i).flatMap rnV ++ rnV x).length := by rw [List.length_append, hLt, rnV_len, Nat.succ_mul]
          rw [e, ← List.append_assoc, setR_mid (by rw [hz2, hLd])]
        rw [hL]
        have hlen : ((rnIns rs i x).flatMap rnV).length = (rs.length + 1) * 3 := by rw [flat_len rnV_len, rnIns_len x hi]
        refine ⟨_, ⟨some ⟨g9, 0, none⟩, k9, rfl, rfl⟩, ?_⟩
        exact ent_osl q2 q3 hlen (by rw [List.length_append, hlen]; rw [List.length_append, List.length_append, hLt, List.length_append, hz1, hz2] at q5; omega)
      · intro c8
        refine x_skip (n_then (x_seq (x_region (s_val rfl (v_move rfl) (s_val rfl (v_move rfl) (s_val rfl (v_move rfl) ?_))))))
        refine s_val rfl (v_add rfl rfl (by rw [w64 (by omega)]; omega : IntKind.wrap .i64 ((rs.length : Int) + ((1 : Nat) : Int)) = ((rs.length + 1 : Nat) : Int))) ?_
        refine s_val rfl (v_sliceH Tryz.underlying492 Tryz.sizeOf498 rfl rfl rfl (by omega)) ?_
        refine s_val rfl (v_assign rfl) (x_nil (n_then (x_seq (x_seq (x_region (s_val rfl (v_move rfl) (s_val rfl (v_move rfl) (s_val rfl (v_move rfl) (s_val rfl (v_move rfl) ?_)))))))))
        refine s_val rfl (v_add rfl rfl (by rw [w64 (by omega)]; omega : IntKind.wrap .i64 ((i : Int) + ((1 : Nat) : Int)) = ((i + 1 : Nat) : Int))) ?_
        refine s_val rfl (v_sliceLg Tryz.underlying492 Tryz.sizeOf498 rfl (i := i + 1) (a' := some ⟨g, (i + 1) * 3, none⟩) rfl rfl (by omega) (by rw [sliA, if_neg (by omega)]; simp [add_none])) ?_
        refine s_val rfl (v_ext (v := .bool false) rfl (fun w hO => by have h1 := ovl_apart (P := Tryz.prog) (tR := 4) (oa := 0) (na := 1) (ca := 1) (ob := (i + 1) * 3) (nb := rs.length + 1 - (i + 1)) (cb := c - (i + 1)) (ba := bv) (ga := g) (la := rnV x) (lb := rs.flatMap rnV ++ sp) Tryz.underlying492 Tryz.sizeOf498 (Nat.zero_le _) (by rw [h5]; omega) hO; rw [run_callFunc_extern Tryz.func375 (by kernel_rfl) (by kernel_rfl) (by kernel_rfl) (e := Extern.SlicesOverlaps.overlaps #[492, 492] #[4]) (by kernel_rfl), h1]; rfl)) ?_
        refine s_val rfl (v_not rfl) (x_nil (n_then ?_))
        refine x_if rfl ?_ ?_
        · intro c14
          refine x_seq ?_
          refine x_draw [] 9 mixed rfl sc_end (fun hS => ?_)
          refine d_take 0 rfl rfl (by kernel_rfl) (by kernel_rfl) (by kernel_rfl) rfl hS (v_move rfl) ?_
          refine d_take 1 rfl rfl (by kernel_rfl) (by kernel_rfl) (by kernel_rfl) rfl hS (v_move rfl) ?_
          refine d_take 2 rfl rfl (by kernel_rfl) (by kernel_rfl) (by kernel_rfl) rfl hS (v_move rfl) ?_
          refine d_take 3 rfl rfl (by kernel_rfl) (by kernel_rfl) (by kernel_rfl) rfl hS (v_add rfl rfl (by rw [w64 (by omega)]; omega : IntKind.wrap .i64 ((i : Int) + ((1 : Nat) : Int)) = ((i + 1 : Nat) : Int))) ?_
          refine d_take 4 rfl rfl (by kernel_rfl) (by kernel_rfl) (by kernel_rfl) rfl hS (v_sliceLg Tryz.underlying492 Tryz.sizeOf498 rfl (i := i + 1) (a' := some ⟨g, (i + 1) * 3, none⟩) rfl rfl (by omega) (by rw [sliA, if_neg (by omega)]; simp [add_none])) ?_
          refine d_take 5 rfl rfl (by kernel_rfl) (by kernel_rfl) (by kernel_rfl) rfl hS (v_move rfl) ?_
          refine d_take 6 rfl rfl (by kernel_rfl) (by kernel_rfl) (by kernel_rfl) rfl hS (v_move rfl) ?_
          refine d_take 7 rfl rfl (by kernel_rfl) (by kernel_rfl) (by kernel_rfl) rfl hS (v_sliceLg Tryz.underlying492 Tryz.sizeOf498 rfl (i := i) (a' := some ⟨g, i * 3, none⟩) rfl rfl (by omega) (by rw [sliA, if_neg (by omega)]; simp [add_none])) ?_
          refine d_one 8 (by kernel_rfl) rfl rfl (d_copy Tryz.underlying492 Tryz.sizeOf498 rfl rfl (m := rs.length - i) (vs := (rs.drop i).flatMap rnV) ((Nat.min_eq_right (by omega)).trans (by omega)) (cells_mid (b := g) (l1 := (rs.take i).flatMap rnV) (l3 := sp) (by rw [← rn_split]) hLt) hLd (rns_one _) (by omega) rfl) rfl ?_; clear hS
          rintro _ B_ ⟨rfl, hB_⟩
          obtain rfl := hB_.symm
          refine ⟨sc_end, fun hS => ?_⟩
          refine d_done (by kernel_rfl) ?_; clear hS
          refine n_then (x_seq (x_region (s_val rfl (v_move rfl) (s_val rfl (v_move rfl) ?_))))
          refine s_val rfl (v_sliceLg Tryz.underlying492 Tryz.sizeOf498 rfl (i := i) (a' := some ⟨g, i * 3, none⟩) rfl rfl (by omega) (by rw [sliA, if_neg (by omega)]; simp [add_none])) ?_
          refine s_val rfl (v_move rfl) ?_
          refine s_do rfl (d_copy Tryz.underlying492 Tryz.sizeOf498 rfl rfl (m := 1) (vs := rnV x) (Nat.min_eq_left (by omega)) (cells_all (b := bv)) rfl (rnV_one x) (by rw [setR_length]; omega) rfl) ?_
          rintro _ B_ ⟨rfl, hB_⟩
          obtain rfl := hB_.symm
          refine x_nil (n_then (x_seq (x_region (s_val rfl (v_move rfl) (s_val rfl (v_assign rfl) (x_nil (n_then (x_ret (r_then (x_done (.inl rfl) (.cons (r_tmp rfl) .nil) ?_))))))))))
          have hsp : 3 ≤ sp.length := by rw [List.length_append, hLr] at h5; omega
          obtain ⟨s1, s2, rfl, hs1⟩ : ∃ s1 s2, sp = s1 ++ s2 ∧ s1.length = 3 := ⟨sp.take 3, sp.drop 3, (List.take_append_drop 3 sp).symm, by rw [List.length_take]; omega⟩
          obtain ⟨q1, q2, hq, hq1⟩ : ∃ q1 q2, (rs.drop i).flatMap rnV ++ s1 = q1 ++ q2 ∧ q1.length = 3 := ⟨((rs.drop i).flatMap rnV ++ s1).take 3, ((rs.drop i).flatMap rnV ++ s1).drop 3, (List.take_append_drop 3 _).symm, by rw [List.length_take, List.length_append]; omega⟩
          have hq2 : q2.length = ((rs.drop i).flatMap rnV).length := by
            have := congrArg List.length hq
            rw [List.length_append, List.length_append] at this; omega
          have hL : setR (setR (rs.flatMap rnV ++ (s1 ++ s2)) ((i + 1) * 3) ((rs.drop i).flatMap rnV)) (i * 3) (rnV x) = (rnIns rs i x).flatMap rnV ++ s2 := by
            have h0 : rs.flatMap rnV ++ (s1 ++ s2) = (rs.take i).flatMap rnV ++ q1 ++ q2 ++ s2 := by
              conv => lhs; rw [rn_split rs i]
              rw [List.append_assoc, ← List.append_assoc ((rs.drop i).flatMap rnV), hq]
              simp only [List.append_assoc]
            have e : (i + 1) * 3 = ((rs.take i).flatMap rnV ++ q1).length := by rw [List.length_append, hLt, hq1, Nat.succ_mul]
            have h6 : (rs.take i).flatMap rnV ++ q1 ++ (rs.drop i).flatMap rnV ++ s2 = (rs.take i).flatMap rnV ++ q1 ++ ((rs.drop i).flatMap rnV ++ s2) := by simp only [List.append_assoc]
            have h7 := setR_mid (p := (rs.take i).flatMap rnV) (q := q1) (s := (rs.drop i).flatMap rnV ++ s2) (r := rnV x) (by rw [hq1]; rfl)
            rw [hLt] at h7
            rw [h0, e, setR_mid hq2, h6, h7, rnIns_flat]
            simp only [List.append_assoc]
          rw [hL]
          have hlen : ((rnIns rs i x).flatMap rnV).length = (rs.length + 1) * 3 := by rw [flat_len rnV_len, rnIns_len x hi]
          refine ⟨_, ⟨some ⟨g, 0, none⟩, c, rfl, rfl⟩, ?_⟩
          exact ent_osl (by omega) h3 hlen (by rw [List.length_append, hlen]; rw [List.length_append, List.length_append, hLr, hs1] at h5; omega)
        · intro c14
          first | exact absurd rfl c14 | exact absurd (by decide) c14
end Go.Proofs.YtnidndllknffgaaGreat
namespace Go.Proofs.YtnidndllknffgaaGreat
open Go.RowKit
set_option linter.unusedSimpArgs false
set_option linter.unusedVariables false
set_option maxRecDepth 20000
def gvE (rs : List Rn) (n f k w : Int) : Int := if f < 0 ∨ k < 1 ∨ n < f ∨ n - f < k ∨ w < 0 ∨ 64 ≤ w then 1 else if mtH rs f k then 5 else 0
def gvR (rs : List Rn) (n f k w : Int) : List Rn := if gvE rs n f k w = 0 then rnIns rs (mtA rs f) (f, k, w) else rs
theorem gvR_ok {rs : List Rn} {n f k w : Int} (h : TbOk rs) (hn : n ≤ 64) : TbOk (gvR rs n f k w) := by
  unfold gvR; split
  · rename_i he
    have hb : ¬ (f < 0 ∨ k < 1 ∨ n < f ∨ n - f < k ∨ w < 0 ∨ 64 ≤ w) := fun q => by rw [gvE, if_pos q] at he; exact absurd he (by decide)
    intro x hx
    rw [rnIns] at hx
    rcases List.mem_append.1 hx with q | q
    · exact h x (List.mem_of_mem_take q)
    · rcases List.mem_cons.1 q with rfl | q
      · exact ⟨by show 0 ≤ f; omega, by show 1 ≤ k; omega, by show f + k ≤ 64; omega, by show 0 ≤ w; omega, by show w < 64; omega⟩
      · exact h x (List.mem_of_mem_drop q)
  · exact h
theorem gvR_len {rs : List Rn} {n f k w : Int} : (gvR rs n f k w).length ≤ rs.length + 1 := by
  unfold gvR; split
  · rw [rnIns_len _ (mtA_le _ _)]; omega
  · omega
theorem paGive_spec (W0 : World) (R : List HP) (b : Nat) (rs : List Rn) (n : Int) (hn : 0 ≤ n ∧ n ≤ 64) (hok : TbOk rs) (hl : rs.length ≤ 900) (f k w : Int) :
    Spec Tryz.prog W0 249 [.pointer (some ⟨b, 0, none⟩), .int .i64 f, .int .i64 k, .int .i64 w] (tabH b (rs, n) :: R) (fun v B => v = .int .i64 (gvE rs n f k w) ∧ B = tabH b (gvR rs n f k w, n) :: R) := by
  refine spec_body Tryz.func249 Tryz.ntmps249 rfl rfl ?_
  refine x_seq ?_
  refine run_tab (b := b) fun a c => ?_
  dsimp only
  refine x_region (s_val rfl (v_assign rfl) (x_nil (n_then (x_seq (x_block (x_seq (x_region (s_val rfl (v_move rfl) (s_do rfl (d_call1 Tryz.call335 rfl (paNone_spec W0 _ b rs.length c a n)) ?_)))))))))
  rintro _ B_ ⟨rfl, hB_⟩
  obtain rfl := hB_.symm
  refine s_val rfl (v_assign rfl) (x_nil (n_then ?_))
  refine x_if rfl ?_ ?_
  · intro c1
    exact absurd c1 (by decide)
  · intro c1
    refine x_seq (x_seq (x_region (s_val rfl (v_move rfl) (s_val rfl (v_lss rfl rfl) (s_val rfl (v_assign rfl) (x_nil (n_then ?_)))))))
    refine x_if rfl ?_ ?_
    · intro c3
      refine x_skip (n_then (x_ift rfl (x_seq (x_region (s_val rfl (v_assign rfl) (x_nil (n_then (x_ret (r_block (r_then (x_done (.inl rfl) (.cons (r_tmp rfl) .nil) ?_)))))))))))
      have he : gvE rs n f k w = 1 := by rw [gvE, if_pos (by omega)]
      rw [gvR, he, if_neg (by decide)]
      exact ⟨_, ⟨rfl, rfl⟩, ent_tab rfl rfl⟩
    · intro c3
      refine x_seq (x_region (s_val rfl (v_move rfl) (s_val rfl (v_lss rfl rfl) (s_val rfl (v_assign rfl) (x_nil (n_then ?_))))))
      refine x_if rfl ?_ ?_
      · intro c4
        refine x_skip (n_then (x_ift rfl (x_seq (x_region (s_val rfl (v_assign rfl) (x_nil (n_then (x_ret (r_block (r_then (x_done (.inl rfl) (.cons (r_tmp rfl) .nil) ?_)))))))))))
        have he : gvE rs n f k w = 1 := by rw [gvE, if_pos (by omega)]
        rw [gvR, he, if_neg (by decide)]
        exact ⟨_, ⟨rfl, rfl⟩, ent_tab rfl rfl⟩
      · intro c4
        refine x_seq (x_region (s_val rfl (v_move rfl) (s_val rfl (v_move rfl) (s_val rfl (v_nilCheck rfl) ?_))))
        refine s_val rfl (v_fieldAddr rfl Tryz.underlying494 rfl Tryz.sizeOf3 rfl (by first | exact Nat.zero_add _ | rfl)) ?_
        refine s_val rfl (v_load Tryz.isAgg3 rfl (cell_own rfl)) ?_
        refine s_val rfl (v_gtr rfl rfl) (s_val rfl (v_assign rfl) (x_nil (n_then ?_)))
        refine x_if rfl ?_ ?_
        · intro c5
          refine x_skip (n_then (x_ift rfl (x_seq (x_region (s_val rfl (v_assign rfl) (x_nil (n_then (x_ret (r_block (r_then (x_done (.inl rfl) (.cons (r_tmp rfl) .nil) ?_)))))))))))
          have he : gvE rs n f k w = 1 := by rw [gvE, if_pos (by omega)]
          rw [gvR, he, if_neg (by decide)]
          exact ⟨_, ⟨rfl, rfl⟩, ent_tab rfl rfl⟩
        · intro c5
          refine x_seq (x_region (s_val rfl (v_move rfl) (s_val rfl (v_move rfl) (s_val rfl (v_nilCheck rfl) ?_))))
          refine s_val rfl (v_fieldAddr rfl Tryz.underlying494 rfl Tryz.sizeOf3 rfl (by first | exact Nat.zero_add _ | rfl)) ?_
          refine s_val rfl (v_load Tryz.isAgg3 rfl (cell_own rfl)) ?_
          refine s_val rfl (v_move rfl) ?_
          refine s_val rfl (v_sub rfl rfl (w64 (by omega))) ?_
          refine s_val rfl (v_gtr rfl rfl) (s_val rfl (v_assign rfl) (x_nil (n_then ?_)))
          refine x_if rfl ?_ ?_
          · intro c6
            refine x_skip (n_then (x_ift rfl (x_seq (x_region (s_val rfl (v_assign rfl) (x_nil (n_then (x_ret (r_block (r_then (x_done (.inl rfl) (.cons (r_tmp rfl) .nil) ?_)))))))))))
            have he : gvE rs n f k w = 1 := by rw [gvE, if_pos (by omega)]
            rw [gvR, he, if_neg (by decide)]
            exact ⟨_, ⟨rfl, rfl⟩, ent_tab rfl rfl⟩
          · intro c6
            refine x_seq (x_region (s_val rfl (v_move rfl) (s_val rfl (v_lss rfl rfl) (s_val rfl (v_assign rfl) (x_nil (n_then ?_))))))
            refine x_if rfl ?_ ?_
            · intro c7
              refine x_skip (n_then (x_ift rfl (x_seq (x_region (s_val rfl (v_assign rfl) (x_nil (n_then (x_ret (r_block (r_then (x_done (.inl rfl) (.cons (r_tmp rfl) .nil) ?_)))))))))))
              have he : gvE rs n f k w = 1 := by rw [gvE, if_pos (by omega)]
              rw [gvR, he, if_neg (by decide)]
              exact ⟨_, ⟨rfl, rfl⟩, ent_tab rfl rfl⟩
            · intro c7
              refine x_region (s_val rfl (v_move rfl) (s_val rfl (v_geq rfl rfl) (s_val rfl (v_assign rfl) (x_nil (n_then ?_)))))
              refine x_if rfl ?_ ?_
              · intro c8
                refine x_seq (x_region (s_val rfl (v_assign rfl) (x_nil (n_then (x_ret (r_block (r_then (x_done (.inl rfl) (.cons (r_tmp rfl) .nil) ?_))))))))
                have he : gvE rs n f k w = 1 := by rw [gvE, if_pos (by omega)]
                rw [gvR, he, if_neg (by decide)]
                exact ⟨_, ⟨rfl, rfl⟩, ent_tab rfl rfl⟩
              · intro c8
                refine x_skip (n_block (n_then (x_seq (x_region (s_val rfl (v_move rfl) (s_val rfl (v_move rfl) (s_val rfl (v_move rfl) ?_)))))))
                refine s_do rfl (d_call2 Tryz.call336 rfl (paMeets_spec W0 _ b c rs n a hok (by omega) f k (by omega))) ?_
                rintro _ B_ ⟨rfl, hB_⟩
                obtain rfl := hB_.symm
                refine s_val rfl (v_move rfl) (s_val rfl (v_extract rfl rfl) (s_val rfl (v_extract rfl rfl) (s_val rfl (v_assign rfl) (s_val rfl (v_assign rfl) (x_nil (n_then (x_seq (x_seq (x_region (s_val rfl (v_move rfl) (x_nil (n_then ?_))))))))))))
                refine x_if rfl ?_ ?_
                · intro c11
                  refine x_seq (x_region (s_val rfl (v_assign rfl) (x_nil (n_then (x_ret (r_then (x_done (.inl rfl) (.cons (r_tmp rfl) .nil) ?_)))))))
                  have he : gvE rs n f k w = 5 := by rw [gvE, if_neg (by omega), if_pos c11]
                  rw [gvR, he, if_neg (by decide)]
                  exact ⟨_, ⟨rfl, rfl⟩, ent_tab rfl rfl⟩
                · intro c11
                  refine x_skip (n_then (x_seq ?_))
                  have he : gvE rs n f k w = 0 := by rw [gvE, if_neg (by omega), if_neg c11]
                  have hal := mtA_le rs f
                  refine run_sla (E := 498) (sz := 3) (a := a) (n := rs.length) (c := c) rnV rs rnV_len (by decide) rfl (fun hs => ?_)
                  refine x_region (s_val rfl (v_move rfl) (s_val rfl (v_move rfl) (s_val rfl (v_nilCheck rfl) ?_)))
                  refine s_val rfl (v_fieldAddr rfl Tryz.underlying494 rfl Tryz.sizeOf492 rfl (by first | exact Nat.zero_add _ | rfl)) ?_
                  refine s_val rfl (v_load Tryz.isAgg492 rfl (cell_own rfl)) ?_
                  refine s_do rfl (d_call Tryz.call338 rfl (cloneRn_spec W0 _ rs a rs.length c rfl (by omega) hs)) ?_
                  rintro _ B_ ⟨a2, cc, rfl, hB_⟩
                  obtain rfl := hB_.symm
                  refine s_val rfl (v_move rfl) (s_val rfl (v_move rfl) (s_val rfl (v_move rfl) (s_val rfl (v_move rfl) (s_val rfl (v_build Tryz.underlying498 Tryz.zeroValue498 (sized_cons Tryz.sizeOf3 (sized_cons Tryz.sizeOf3 (sized_cons Tryz.sizeOf3 sized_nil))) (fil_scal rfl Tryz.sizeOf3 rfl rfl (Nat.le_of_ble_eq_true rfl) SetL.eq (fil_scal rfl Tryz.sizeOf3 rfl rfl (Nat.le_of_ble_eq_true rfl) SetL.eq (fil_scal rfl Tryz.sizeOf3 rfl rfl (Nat.le_of_ble_eq_true rfl) SetL.eq fil_nil)))) ?_))))
                  refine s_do rfl (d_sliceAgg Tryz.underlying492 Tryz.sizeOf498 Tryz.zeroValue498 rfl (elsK_cons rfl rfl elsK_nil) rfl (by decide) (by decide) (by decide)) ?_
                  rintro _ _ ⟨bv, rfl, rfl⟩
                  refine s_do rfl (d_call2 Tryz.call337 rfl (insRn_spec W0 _ rs a2 cc bv (f, k, w) (mtA rs f) hal (by omega))) ?_
                  rintro _ B_ ⟨a3, c3', rfl, hB_⟩
                  obtain rfl := hB_.symm
                  refine s_val rfl (v_nilCheck rfl) ?_
                  refine s_val rfl (v_fieldAddr rfl Tryz.underlying494 rfl Tryz.sizeOf492 rfl (by first | exact Nat.zero_add _ | rfl)) ?_
                  refine s_do0 (d_store Tryz.sizeOf492 rfl rfl rfl (Nat.le_of_ble_eq_true rfl) SetL.eq) ?_
                  rintro _ _ rfl
                  refine x_nil (n_then (x_seq (x_region (s_val rfl (v_assign rfl) (x_nil (n_then (x_ret (x_done (.inl rfl) (.cons (r_tmp rfl) .nil) ?_))))))))
                  rw [gvR, he, if_pos rfl]
                  exact ⟨_, ⟨rfl, rfl⟩, ent_tab (rnIns_len _ hal).symm rfl⟩
def whF : List Rn → Int → Option Int
  | [], _ => none
  | x :: l, i => if x.1 ≤ i ∧ i < x.1 + x.2.1 then some x.2.2 else whF l i
theorem whF_lt {rs : List Rn} (h : TbOk rs) : ∀ {x w : Int}, whF rs x = some w → 0 ≤ w ∧ w < 64 := by
  intro x w hw
  induction rs with
  | nil => cases hw
  | cons y l ih =>
    rw [whF] at hw
    split at hw
    · cases hw
      have := h y (by simp)
      exact ⟨this.2.2.2.1, this.2.2.2.2⟩
    · exact ih (fun z hz => h z (by simp [hz])) hw
end Go.Proofs.YtnidndllknffgaaGreat
namespace Go.Proofs.YtnidndllknffgaaGreat
open Go.RowKit
set_option linter.unusedSimpArgs false
set_option linter.unusedVariables false
set_option maxRecDepth 20000
def TbS (rs : List Rn) : Prop := rs.Pairwise fun x y => x.1 + x.2.1 ≤ y.1
theorem mtH_cons (x : Rn) (l : List Rn) (f k : Int) : mtH (x :: l) f k = if x.1 + x.2.1 ≤ f then mtH l f k else decide (x.1 < f + k) := by
  unfold mtH; rw [mtA]
  by_cases h : x.1 + x.2.1 ≤ f
  · simp only [if_pos h, List.getElem?_cons_succ]
  · simp only [if_neg h, List.getElem?_cons_zero]
theorem ins_cons (x y : Rn) (l : List Rn) (f : Int) : rnIns (x :: l) (mtA (x :: l) f) y = if x.1 + x.2.1 ≤ f then x :: rnIns l (mtA l f) y else y :: x :: l := by
  unfold rnIns; rw [mtA]
  by_cases h : x.1 + x.2.1 ≤ f
  · simp only [if_pos h, List.take_succ_cons, List.drop_succ_cons, List.cons_append]
  · simp only [if_neg h, List.take_zero, List.drop_zero, List.nil_append]
theorem whF_has {l : List Rn} {i : Int} (h : whF l i ≠ none) : ∃ y ∈ l, y.1 ≤ i ∧ i < y.1 + y.2.1 := by
  induction l with
  | nil => exact absurd rfl h
  | cons x l ih =>
    rw [whF] at h
    by_cases q : x.1 ≤ i ∧ i < x.1 + x.2.1
    · exact ⟨x, by simp, q⟩
    · rw [if_neg q] at h
      obtain ⟨y, hy, h2⟩ := ih h
      exact ⟨y, by simp [hy], h2⟩
theorem mtH_iff : ∀ {rs : List Rn} {f k : Int}, TbS rs → (∀ x ∈ rs, 1 ≤ x.2.1) → 1 ≤ k → (mtH rs f k = true ↔ ∃ i, f ≤ i ∧ i < f + k ∧ whF rs i ≠ none)
  | [], f, k, _, _, _ => by
    constructor
    · intro h; simp [mtH] at h
    · rintro ⟨i, _, _, h⟩; exact absurd rfl h
  | x :: l, f, k, hs, hp, hk => by
    obtain ⟨h1, h2⟩ := List.pairwise_cons.1 hs
    have hx := hp x (by simp)
    rw [mtH_cons]
    by_cases q : x.1 + x.2.1 ≤ f
    · rw [if_pos q, mtH_iff h2 (fun y hy => hp y (by simp [hy])) hk]
      constructor
      · rintro ⟨i, a, b, c⟩; exact ⟨i, a, b, by rw [whF, if_neg (by omega)]; exact c⟩
      · rintro ⟨i, a, b, c⟩; rw [whF, if_neg (by omega)] at c; exact ⟨i, a, b, c⟩
    · rw [if_neg q, decide_eq_true_iff]
      constructor
      · intro h
        by_cases q2 : f ≤ x.1
        · exact ⟨x.1, q2, h, by rw [whF, if_pos (by omega)]; simp⟩
        · exact ⟨f, Int.le_refl _, by omega, by rw [whF, if_pos (by omega)]; simp⟩
      · rintro ⟨i, a, b, c⟩
        rw [whF] at c
        by_cases q2 : x.1 ≤ i ∧ i < x.1 + x.2.1
        · omega
        · rw [if_neg q2] at c
          obtain ⟨y, hy, h3⟩ := whF_has c
          have := h1 y hy
          omega
theorem whF_ins : ∀ {rs : List Rn} {f k w : Int} (i : Int), whF (rnIns rs (mtA rs f) (f, k, w)) i = if f ≤ i ∧ i < f + k then some w else whF rs i
  | [], f, k, w, i => by
    show whF [(f, k, w)] i = _
    rw [whF, whF]; rfl
  | x :: l, f, k, w, i => by
    rw [ins_cons]
    by_cases q : x.1 + x.2.1 ≤ f
    · rw [if_pos q, whF, whF_ins i, whF]
      by_cases q2 : x.1 ≤ i ∧ i < x.1 + x.2.1
      · rw [if_pos q2, if_pos q2, if_neg (by omega)]
      · rw [if_neg q2, if_neg q2]
    · rw [if_neg q, whF]
theorem ins_mem {x y : Rn} {l : List Rn} {i : Nat} (h : x ∈ rnIns l i y) : x = y ∨ x ∈ l := by
  unfold rnIns at h
  rcases List.mem_append.1 h with q | q
  · exact .inr (List.mem_of_mem_take q)
  · rcases List.mem_cons.1 q with q | q
    · exact .inl q
    · exact .inr (List.mem_of_mem_drop q)
theorem ins_tbs : ∀ {rs : List Rn} {f k w : Int}, TbS rs → (∀ x ∈ rs, 1 ≤ x.2.1) → mtH rs f k = false → TbS (rnIns rs (mtA rs f) (f, k, w))
  | [], f, k, w, _, _, _ => List.pairwise_singleton _ _
  | x :: l, f, k, w, hs, hp, hm => by
    obtain ⟨h1, h2⟩ := List.pairwise_cons.1 hs
    have hx := hp x (by simp)
    rw [mtH_cons] at hm
    rw [ins_cons]
    by_cases q : x.1 + x.2.1 ≤ f
    · rw [if_pos q] at hm ⊢
      refine List.pairwise_cons.2 ⟨fun y hy => ?_, ins_tbs h2 (fun y hy => hp y (by simp [hy])) hm⟩
      rcases ins_mem hy with rfl | hy
      · exact q
      · exact h1 y hy
    · rw [if_neg q] at hm ⊢
      have hm := of_decide_eq_false hm
      refine List.pairwise_cons.2 ⟨fun y hy => ?_, hs⟩
      rcases List.mem_cons.1 hy with rfl | hy
      · show f + k ≤ _; omega
      · have := h1 y hy
        show f + k ≤ _; omega
theorem gvR_tbs {rs : List Rn} {n f k w : Int} (h : TbS rs) (hp : ∀ x ∈ rs, 1 ≤ x.2.1) : TbS (gvR rs n f k w) := by
  unfold gvR; split
  · rename_i he
    unfold gvE at he
    split at he
    · exact absurd he (by decide)
    · split at he
      · exact absurd he (by decide)
      · rename_i q; exact ins_tbs h hp (by simpa using q)
  · exact h
structure RT (rs : List Rn) (L : List Int) : Prop where
  at_ : ∀ i : Nat, i < L.length → L.getD i (-1) = (whF rs i).getD (-1)
  s : TbS rs
  ok : TbOk rs
def rpE (L : List Int) (f k w : Int) : Int := if f < 0 ∨ k < 1 ∨ (L.length : Int) < f ∨ L.length - f < k ∨ w < 0 ∨ 64 ≤ w then 1 else if (List.range k.toNat).any (fun i => decide (0 ≤ L.getD (f.toNat + i) (-1))) then 5 else 0
def rpS (L : List Int) (f k w : Int) : List Int := if rpE L f k w = 0 then (List.range L.length).map fun (i : Nat) => if f ≤ i ∧ (i : Int) < f + k then w else L.getD i (-1) else L
theorem rpS_len {L : List Int} {f k w : Int} : (rpS L f k w).length = L.length := by unfold rpS; split <;> simp
theorem whF_nn {rs : List Rn} (h : TbOk rs) {i : Int} : 0 ≤ (whF rs i).getD (-1) ↔ whF rs i ≠ none := by
  cases e : whF rs i with
  | none => simp
  | some w => have := whF_lt h e; simp; omega
theorem rt_any {rs : List Rn} {L : List Int} (h : RT rs L) {f k : Int} (hb : 0 ≤ f ∧ 1 ≤ k ∧ f + k ≤ L.length) : (List.range k.toNat).any (fun i => decide (0 ≤ L.getD (f.toNat + i) (-1))) = mtH rs f k := by
  rw [Bool.eq_iff_iff, mtH_iff h.s (fun x hx => (h.ok x hx).2.1) hb.2.1, List.any_eq_true]
  constructor
  · rintro ⟨i, hi, hd⟩
    have hi := List.mem_range.1 hi
    have hd := of_decide_eq_true hd
    rw [h.at_ _ (by omega)] at hd
    exact ⟨((f.toNat + i : Nat) : Int), by omega, by omega, (whF_nn h.ok).1 hd⟩
  · rintro ⟨i, a, b, c⟩
    refine ⟨(i - f).toNat, List.mem_range.2 (by omega), decide_eq_true ?_⟩
    rw [h.at_ _ (by omega), show ((f.toNat + (i - f).toNat : Nat) : Int) = i by omega]
    exact (whF_nn h.ok).2 c
theorem rt_e {rs : List Rn} {L : List Int} (h : RT rs L) {n : Int} (hn : n = L.length) (f k w : Int) : rpE L f k w = gvE rs n f k w := by
  unfold rpE gvE
  rw [hn]
  by_cases q : f < 0 ∨ k < 1 ∨ (L.length : Int) < f ∨ L.length - f < k ∨ w < 0 ∨ 64 ≤ w
  · rw [if_pos q, if_pos q]
  · rw [if_neg q, if_neg q, rt_any h (by omega)]
theorem rt_s {rs : List Rn} {L : List Int} (h : RT rs L) {n : Int} (hn : n = L.length) (h64 : n ≤ 64) (f k w : Int) : RT (gvR rs n f k w) (rpS L f k w) := by
  refine ⟨fun i hi => ?_, gvR_tbs h.s (fun x hx => (h.ok x hx).2.1), gvR_ok h.ok h64⟩
  rw [rpS_len] at hi
  unfold rpS gvR
  rw [rt_e h hn]
  by_cases q : gvE rs n f k w = 0
  · rw [if_pos q, if_pos q, whF_ins]
    simp only [List.getD, List.getElem?_map, List.getElem?_range hi, Option.map_some, Option.getD_some]
    by_cases q2 : f ≤ (i : Int) ∧ (i : Int) < f + k
    · rw [if_pos q2, if_pos q2]; rfl
    · rw [if_neg q2, if_neg q2]; exact h.at_ i hi
  · rw [if_neg q, if_neg q]; exact h.at_ i hi
theorem rt_nil (n : Nat) : RT [] (List.replicate n (-1)) := ⟨fun i hi => by simp at hi; simp [List.getD, hi, whF], List.Pairwise.nil, fun x hx => by simp at hx⟩
end Go.Proofs.YtnidndllknffgaaGreat
namespace Go.Proofs.YtnidndllknffgaaGreat
open Go.RowKit
set_option linter.unusedSimpArgs false
set_option linter.unusedVariables false
section
variable {P : Program} {W0 : World} {N : FSz} {e : Env} {A R : List HP} {t : TypeId} {v : Value} {x y : Operand} {l' ys : List Value}
theorem d_storeS {E sz n c g j : Nat} [h : Tk (osl E sz) (.slice (some ⟨g, 0, none⟩) n c) A ys R] (hs : ∀ w, (sizeOf t).run P w = .ok 1 w) (hx : ev e x = some (.pointer (some ⟨g, j, none⟩))) (hy : ev e y = some v)
    (h1 : v.oneCell' = true) (hj : j < ys.length) (hl : ys.set j v = l') : Does P W0 N e A (.store t x y) (fun _ B => B = osl E sz (.slice (some ⟨g, 0, none⟩) n c) l' :: R) := by
  intro a w dst ty pos af gd K Q hF hO k
  rcases (hO.tk (r := osl E sz) (b := .slice (some ⟨g, 0, none⟩) n c)).osl with ⟨k1, _, _⟩ | ⟨g', n', cap, sp, k1, k2, k3, k4, k5, k6⟩
  · cases k1
  · cases k1
    refine d_store (b := g) (l := ys ++ sp) hs hx hy h1 (by rw [List.length_append]; omega) rfl a w dst ty pos af gd K Q hF k6 fun v' w' B hp hO' => ?_
    subst hp
    refine k v' w' _ rfl (hO'.ent ?_)
    have e1 : (ys ++ sp).set j v = l' ++ sp := by rw [List.set_append_left _ _ hj, hl]
    rw [e1]
    exact ent_osl k2 k3 (by rw [← hl, List.length_set]; exact k4) (by rw [← hl, List.length_append, List.length_set, ← List.length_append]; exact k5)
theorem v_idxA {S : World → Prop} {E n c j sz o' b off : Nat} {k : IntKind} {i : Int} {a' : Option Addr} (hu : P.underlying t = some (.slice E)) (hs : ∀ w, (sizeOf E).run P w = .ok sz w) (hx : ev e x = some (.slice a' n c)) (ha : a' = some ⟨b, off, none⟩) (hy : ev e y = some (.int k i))
    (hi : i = (j : Int)) (hj : j < n) (ho : off + j * sz = o') : Val P S N e (.indexAddr t x y) (.pointer (some ⟨b, o', none⟩)) := by
  subst ha; exact v_idx hu hs hx hy hi hj ho
instance (priority := high) ent_nil {A : List HP} : Ent A [] := ⟨fun l _ => ⟨[], l, rfl, List.Perm.refl _⟩⟩
end
end Go.Proofs.YtnidndllknffgaaGreat
