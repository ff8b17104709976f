/-
  Part 4 of the proof of MmuHolds: rules, and walks of functions. Conditions: none.
-/
import Derived.Test.YtllkdnadmmjehaaGreatDoorMmuHoldsC
namespace Go.Proofs.YtllkdnadmmjehaaGreatDoor
open Go.RowKit
set_option linter.unusedSimpArgs false
set_option linter.unusedVariables false
set_option maxRecDepth 20000
def HeapF (lo : Nat) (l : List It) (n : Nat) : Prop := ∀ c, c < n → 0 < c → lo ≤ (c - 1) / 2 → us l ((c - 1) / 2) ≤ us l c
def HoleF (lo : Nat) (l : List It) (i n : Nat) : Prop := ∀ c, c < n → 0 < c → (lo ≤ (c - 1) / 2 → c ≠ i → (c - 1) / 2 ≠ i → us l ((c - 1) / 2) ≤ us l c) ∧ ((c - 1) / 2 = i → lo < i → us l ((i - 1) / 2) ≤ us l c)
theorem holeF_swap {lo : Nat} {l : List It} {i j n : Nat} (h : HoleF lo l i n) (hlo : lo ≤ i) (hn : n ≤ l.length) (hj : j < n) (hc : (j - 1) / 2 = i) (h0 : 0 < j) (hlt : us l j < us l i)
    (hmin : ∀ c, c < n → 0 < c → (c - 1) / 2 = i → us l j ≤ us l c) : HoleF lo (swapL l i j) j n ∧ us (swapL l i j) ((j - 1) / 2) ≤ us (swapL l i j) j := by
  have hij : i < j := by omega
  have sw := us_swapL (l := l) (i := i) (j := j) (by omega) (by omega)
  refine ⟨fun c hcn hc0 => ⟨fun h3 h1 h2 => ?_, fun h1 h2 => ?_⟩, ?_⟩
  · rw [sw, sw]
    by_cases e1 : c = i
    · subst e1
      have := (h j hj h0).2 hc (by omega)
      rw [if_neg (by omega), if_neg (by omega), if_pos rfl]; exact this
    · by_cases e2 : (c - 1) / 2 = i
      · rw [if_pos e2, if_neg e1, if_neg h1]; exact hmin c hcn hc0 e2
      · rw [if_neg e2, if_neg h2, if_neg e1, if_neg h1]; exact (h c hcn hc0).1 h3 e1 e2
  · rw [hc, sw, sw, if_pos rfl, if_neg (by omega), if_neg (by omega)]
    rw [← h1]; exact (h c hcn hc0).1 (by omega) (by omega) (by omega)
  · rw [hc, sw, sw, if_pos rfl, if_neg (by omega), if_pos rfl]; omega
theorem holeF_heap {lo : Nat} {l : List It} {i n : Nat} (h : HoleF lo l i n) (hmin : ∀ c, c < n → 0 < c → (c - 1) / 2 = i → us l i ≤ us l c) (hp : lo < i → us l ((i - 1) / 2) ≤ us l i) : HeapF lo l n := fun c hc h0 h3 => by
  by_cases e1 : (c - 1) / 2 = i
  · rw [e1]; exact hmin c hc h0 e1
  · by_cases e2 : c = i
    · subst e2; exact hp (by omega)
    · exact (h c hc h0).1 h3 e2 e1
theorem heapF_hole {lo : Nat} {l : List It} {n : Nat} (h : HeapF (lo + 1) l n) : HoleF lo l lo n := fun c hc h0 => ⟨fun h3 _ h2 => h c hc h0 (by omega), fun _ h => absurd h (Nat.lt_irrefl _)⟩
theorem heapDownF_spec (W0 : World) (R : List HP) (b : Nat) (its : List It) (tl : List Value) (i0 n : Nat) (hn : n ≤ its.length) (hN : n < 1000) (hi : i0 ≤ n) (hH : HoleF i0 its i0 n) :
    Spec Tryz.prog W0 144 [rowI b, .int .i64 i0, .int .i64 n] (rowH b (its, tl) :: R) (fun v B => ∃ l m, v = .bool m ∧ B = rowH b (l, tl) :: R ∧ l.Perm its ∧ HeapF i0 l n) := by
  refine spec_body Tryz.func144 Tryz.ntmps144 rfl rfl ?_
  refine x_seq (x_region (s_val rfl (v_assign rfl) (x_nil (n_then (x_seq (x_region (s_val rfl (v_move rfl) (s_val rfl (v_assign rfl) (x_nil (n_then (x_seq (x_block ?_))))))))))))
  refine x_loop (fun X : List It × Nat => X.1.Perm its ∧ i0 ≤ X.2 ∧ HoleF i0 X.1 X.2 n ∧ (i0 < X.2 → us X.1 ((X.2 - 1) / 2) ≤ us X.1 X.2) ∧ X.2 ≤ n) (fun X => [(0, rowI b), (1, .int .i64 i0), (2, .int .i64 n), (7, .int .i64 X.2)]) (fun X => rowH b (X.1, tl) :: R) (fun X => n - X.2) (its, i0) ?_ ?_ ?_ ?_
  · exact ⟨List.Perm.refl _, Nat.le_refl _, hH, fun h => absurd h (Nat.lt_irrefl _), hi⟩
  · repeat (first | exact sub_nil | refine sub_cons rfl ?_)
  · exact inferInstance
  · intro ⟨l, i⟩ ⟨hp, hi0, hl, hg, hin⟩
    have hlen := hp.length_eq
    simp only at hp hi0 hl hg hin hlen ⊢
    refine x_block (x_seq (x_region (s_val rfl (v_move rfl) ?_)))
    refine s_val rfl (v_mul rfl rfl (by first | exact w64 (by omega) | rfl)) ?_
    refine s_val rfl (v_add rfl rfl (by rw [w64 (by omega)]; omega : IntKind.wrap .i64 (2 * (i : Int) + 1) = ((2 * i + 1 : Nat) : Int))) ?_
    refine s_val rfl (v_assign rfl) (x_nil (n_then (x_seq (x_seq (x_region (s_val rfl (v_move rfl) (s_val rfl (v_move rfl) (s_val rfl (v_geq rfl rfl) (s_val rfl (v_move rfl) ?_)))))))))
    refine s_or rfl rfl rfl ?_ ?_
    · intro g3_4
      refine s_no rfl rfl rfl rfl (s_val rfl (v_pick_t rfl rfl) (x_nil (n_then (x_ift rfl (x_exit (e_then (e_block_ne rfl (e_then (e_block (n_then (x_seq (x_region (s_val rfl (v_move rfl) (s_val rfl (v_move rfl) (s_val rfl (v_gtr rfl rfl) (s_val rfl (v_assign rfl) (x_nil (n_then (x_ret (x_done (.inl rfl) (.cons (r_tmp rfl) .nil) ?_))))))))))))))))))))
      refine ⟨_, ⟨l, decide (i0 < i), by simp [pack], rfl, hp, holeF_heap hl ?_ hg⟩, inferInstance⟩
      first | (intro c hc h0 h1; exfalso; omega) | (intro c hc h0 h1; have := hmin c hc h0 h1; simp at c8; omega)
    · intro g3_4
      refine s_val rfl (v_move rfl) (s_yes rfl rfl (s_val rfl (v_lss rfl rfl) (s_val rfl (v_pick_f rfl rfl) (x_nil (n_then ?_)))))
      refine x_if rfl ?_ ?_
      · intro c3
        omega
      · intro c3
        refine x_skip (n_then (x_seq (x_region (s_val rfl (v_move rfl) (s_val rfl (v_assign rfl) (x_nil (n_then ?_)))))))
        refine x_cut (fun j : Nat => (j - 1) / 2 = i ∧ 0 < j ∧ j < n ∧ ∀ c, c < n → 0 < c → (c - 1) / 2 = i → us l j ≤ us l c) (fun j => [(0, rowI b), (1, .int .i64 i0), (2, .int .i64 n), (7, .int .i64 i), (9, .int .i64 j)]) (fun j => rowH b (l, tl) :: R) ?_ ?_
        · skip
          refine x_seq (x_region (s_val rfl (v_move rfl) ?_))
          refine s_val rfl (v_add rfl rfl (by rw [w64 (by omega)]; omega : IntKind.wrap .i64 (((2 * i + 1 : Nat) : Int) + 1) = ((2 * i + 2 : Nat) : Int))) ?_
          refine s_val rfl (v_assign rfl) (x_nil (n_then (x_seq (x_region (s_val rfl (v_move rfl) (s_val rfl (v_move rfl) (s_val rfl (v_lss rfl rfl) (s_val rfl (v_move rfl) ?_))))))))
          refine s_and rfl rfl rfl ?_ ?_
          · intro g6_4
            refine s_val rfl (v_move rfl) (s_yes rfl rfl (s_val rfl (v_move rfl) (s_yes rfl rfl (s_val rfl (v_move rfl) (s_yes rfl rfl ?_)))))
            refine s_do rfl (d_invoke1 rfl ((fun w => m_less w _)) Tryz.call205 rfl (rowLess_spec W0 _ b l tl (2 * i + 2) (2 * i + 1) (by omega) (by omega))) ?_
            rintro _ B_ ⟨rfl, hB_⟩
            obtain rfl := hB_.symm
            refine s_val rfl (v_pick_t rfl rfl) (x_nil (n_then ?_))
            refine x_if rfl ?_ ?_
            · intro c6
              refine x_region (s_val rfl (v_move rfl) (s_val rfl (v_assign rfl) (x_nil (n_then ?_))))
              refine mid_intro (2 * i + 2) ?_ ?_ ?_
              · refine ⟨by omega, by omega, by omega, fun c hc h0 h1 => ?_⟩
                have : c = 2 * i + 1 ∨ c = 2 * i + 2 := by omega
                rcases this with rfl | rfl <;> omega
              · repeat (first | exact sub_nil | refine sub_cons rfl ?_)
              · exact inferInstance
            · intro c6
              refine x_skip (n_then ?_)
              refine mid_intro (2 * i + 1) ?_ ?_ ?_
              · refine ⟨by omega, by omega, by omega, fun c hc h0 h1 => ?_⟩
                have : c = 2 * i + 1 ∨ c = 2 * i + 2 := by omega
                rcases this with rfl | rfl <;> omega
              · repeat (first | exact sub_nil | refine sub_cons rfl ?_)
              · exact inferInstance
          · intro g6_4
            refine s_no rfl rfl rfl rfl (s_no rfl rfl rfl rfl (s_no rfl rfl rfl rfl (s_val rfl (v_pick_f rfl rfl) (x_nil (n_then (x_iff rfl (x_skip (n_then ?_))))))))
            refine mid_intro (2 * i + 1) ?_ ?_ ?_
            · refine ⟨by omega, by omega, by omega, fun c hc h0 h1 => ?_⟩
              have : c = 2 * i + 1 ∨ c = 2 * i + 2 := by omega
              rcases this with rfl | rfl <;> omega
            · repeat (first | exact sub_nil | refine sub_cons rfl ?_)
            · exact inferInstance
        · intro j ⟨hj, hj0, hjn, hmin⟩
          refine x_seq (x_seq (x_region (s_val rfl (v_move rfl) (s_val rfl (v_move rfl) (s_val rfl (v_move rfl) ?_)))))
          refine s_do rfl (d_invoke1 rfl ((fun w => m_less w _)) Tryz.call205 rfl (rowLess_spec W0 _ b l tl j i (by omega) (by omega))) ?_
          rintro _ B_ ⟨rfl, hB_⟩
          obtain rfl := hB_.symm
          refine s_val rfl (v_not rfl) (x_nil (n_then ?_))
          refine x_if rfl ?_ ?_
          · intro c8
            refine x_exit (e_then (e_block_ne rfl (e_then (e_block (n_then (x_seq (x_region (s_val rfl (v_move rfl) (s_val rfl (v_move rfl) (s_val rfl (v_gtr rfl rfl) (s_val rfl (v_assign rfl) (x_nil (n_then (x_ret (x_done (.inl rfl) (.cons (r_tmp rfl) .nil) ?_)))))))))))))))
            refine ⟨_, ⟨l, decide (i0 < i), by simp [pack], rfl, hp, holeF_heap hl ?_ hg⟩, inferInstance⟩
            first | (intro c hc h0 h1; exfalso; omega) | (intro c hc h0 h1; have := hmin c hc h0 h1; simp at c8; omega)
          · intro c8
            replace c8 : us l j < us l i := by simpa using c8
            refine x_skip (n_then (x_seq (x_region (s_val rfl (v_move rfl) (s_val rfl (v_move rfl) (s_val rfl (v_move rfl) ?_))))))
            refine s_do rfl (d_invoke1 rfl ((fun w => m_swap w _)) Tryz.call208 rfl (rowSwap_spec W0 _ b l tl i j (by omega) (by omega))) ?_
            rintro _ B_ ⟨rfl, hB_⟩
            obtain rfl := hB_.symm
            refine x_nil (n_then (x_region (s_val rfl (v_move rfl) (s_val rfl (v_assign rfl) (x_nil (n_block (n_then ?_)))))))
            refine inv_intro (swapL l i j, j) ?_ ?_ ?_ ?_
            · have hs := holeF_swap hl hi0 (by omega) hjn hj hj0 c8 hmin
              exact ⟨(swapL_perm (by omega) (by omega)).trans hp, by show i0 ≤ j; omega, hs.1, fun _ => hs.2, by show j ≤ n; omega⟩
            · show n - j < n - i; omega
            · repeat (first | exact sub_nil | refine sub_cons rfl ?_)
            · exact inferInstance
theorem heapInit_spec (W0 : World) (R : List HP) (b : Nat) (its : List It) (tl : List Value) (hN : its.length < 1000) :
    Spec Tryz.prog W0 138 [rowI b] (rowH b (its, tl) :: R) (fun v B => ∃ l, v = .tuple #[] ∧ B = rowH b (l, tl) :: R ∧ l.Perm its ∧ Heap l l.length) := by
  refine spec_body Tryz.func138 Tryz.ntmps138 rfl rfl ?_
  refine x_seq (x_region (s_val rfl (v_move rfl) ?_))
  refine s_do rfl (d_invoke1 rfl ((fun w => m_len w _)) Tryz.call121 rfl (rowLen_spec W0 _ b its tl)) ?_
  rintro _ B_ ⟨rfl, hB_⟩
  obtain rfl := hB_.symm
  refine s_val rfl (v_assign rfl) (x_nil (n_then (x_seq (x_region (s_val rfl (v_move rfl) ?_)))))
  refine s_val rfl (v_quo rfl rfl (by decide) ((congrArg (IntKind.wrap .i64) (tdivN its.length 2)).trans (w64 (by omega)))) ?_
  refine s_val rfl (v_sub rfl rfl (w64 (by omega))) ?_
  refine s_val rfl (v_assign rfl) (x_nil (n_then (x_block ?_)))
  refine x_loop (fun X : List It × Nat => X.1.Perm its ∧ X.2 ≤ its.length / 2 ∧ HeapF X.2 X.1 its.length) (fun X => [(0, rowI b), (2, .int .i64 (its.length : Nat)), (3, .int .i64 ((X.2 : Int) - 1))]) (fun X => rowH b (X.1, tl) :: R) (fun X => X.2) (its, its.length / 2) ?_ ?_ ?_ ?_
  · exact ⟨List.Perm.refl _, Nat.le_refl _, fun c hc h0 h1 => by dsimp only at h1; omega⟩
  · repeat (first | exact sub_nil | refine sub_cons rfl ?_)
  · exact inferInstance
  · intro ⟨l, k⟩ ⟨hp, hk, hh⟩
    dsimp only at hp hk hh ⊢
    have hlen := hp.length_eq
    refine x_seq (x_seq (x_region (s_val rfl (v_move rfl) (s_val rfl (v_geq rfl rfl) (x_nil (n_then ?_))))))
    refine x_if rfl ?_ ?_
    · intro c2
      refine x_skip (n_then (x_seq (x_block ?_)))
      obtain ⟨i, rfl⟩ : ∃ i, k = i + 1 := ⟨k - 1, by omega⟩
      have hki : (((i + 1 : Nat) : Int) - 1) = (i : Int) := by omega
      rw [hki]
      refine x_region (s_val rfl (v_move rfl) (s_val rfl (v_move rfl) (s_val rfl (v_move rfl) ?_)))
      refine s_do rfl (d_call1 Tryz.call144 rfl (heapDownF_spec W0 _ b l tl i its.length (by omega) hN (by omega) (heapF_hole hh))) ?_
      rintro _ _ ⟨l2, m, rfl, rfl, hp2, hh2⟩
      refine x_nil (n_block (n_then (x_region (s_val rfl (v_move rfl) ?_))))
      refine s_val rfl (v_sub rfl rfl (w64 (by omega))) ?_
      refine s_val rfl (v_assign rfl) (x_nil (n_then ?_))
      refine inv_intro (l2, i) ?_ ?_ ?_ ?_
      · exact ⟨hp2.trans hp, by show i ≤ its.length / 2; omega, hh2⟩
      · show i < i + 1; omega
      · repeat (first | exact sub_nil | refine sub_cons rfl ?_)
      · exact inferInstance
    · intro c2
      refine x_exit (e_then (e_then (e_block (x_done (.inr rfl) .nil ?_))))
      obtain rfl : k = 0 := by omega
      exact ⟨_, ⟨l, rfl, rfl, hp, fun c hc h0 => hh c (by omega) h0 (Nat.zero_le _)⟩, inferInstance⟩
structure PF (W0 : World) (f : FuncId) (cs : List Value) (C : HP) (p : It → Bool) : Prop where
  call : ∀ args w, (callFunc f args).run Tryz.prog w = .ok (.enter f args) w
  spec : ∀ x R, Spec Tryz.prog W0 f ([] ++ [.agg (itemV x).toArray] ++ cs) (kH 0 C :: R) (fun v B => v = .bool (p x) ∧ B = kH 0 C :: R)
theorem allOne_flat {α : Type} {f : α → List Value} (h : ∀ x, allOne (f x) = true) : ∀ l : List α, allOne (l.flatMap f) = true
  | [] => rfl
  | x :: l => by
    have h1 := h x
    have h2 := allOne_flat h l
    simp only [allOne, List.flatMap_cons, List.all_append, Bool.and_eq_true] at h1 h2 ⊢
    exact ⟨h1, h2⟩
theorem itemV_one (x : It) : allOne (itemV x) = true := rfl
theorem cloneIt_spec (W0 : World) (R : List HP) (its : List It) (a : Option Addr) (c : Nat) (hN : its.length < 1000) (hs : SlA (OwnP W0 R) a 6 itemV its) :
    Spec Tryz.prog W0 137 [.slice a its.length c] R
      (fun v B => ∃ a' c', v = .slice a' its.length c' ∧ B = osl 167 6 (.slice a' its.length c') (its.flatMap itemV) :: R) := by
  refine spec_body Tryz.func137 Tryz.ntmps137 rfl rfl ?_
  refine x_seq (x_region (s_val rfl (v_assign rfl) (x_nil (n_then (x_seq (x_seq (x_region (s_val rfl (v_move rfl) (s_val rfl (v_eql_slice_nil Tryz.underlying164 rfl rfl) (x_nil (n_then ?_)))))))))))
  refine x_if rfl ?_ ?_
  · intro c1
    refine x_seq (x_region (s_val rfl (v_assign rfl) (x_nil (n_then (x_ret (r_then (x_done (.inl rfl) (.cons (r_tmp rfl) .nil) ?_)))))))
    have h0 : its = [] := by
      rcases its with _ | ⟨x, l⟩
      · rfl
      · obtain ⟨b, o, h, _⟩ := hs 0 x rfl
        rw [c1] at h; cases h
    subst h0
    exact ⟨_, ⟨none, 0, rfl, rfl⟩, ent_osl_nil⟩
  · intro c1
    have hsrc := hs.src itemV_len (fun _ => trivial)
    refine x_skip (n_then (x_seq (x_region (s_do rfl (d_slice0 Tryz.underlying164 Tryz.sizeOf167 rfl) ?_))))
    rintro _ _ ⟨b1, rfl, rfl⟩
    refine s_val rfl (v_move rfl) ?_
    refine s_do rfl (d_appendS (sz := 6) (by_ := 48) (info := Tryz.t167) Tryz.underlying164 (by kernel_rfl) rfl rfl rfl rfl (by decide) rfl rfl (news := its.flatMap itemV) (by
  rcases hsrc with h | ⟨bs, os, h1, h2⟩
  · left; rw [h]; rfl
  · right; exact ⟨bs, os, h1, h2.weak⟩) (flat_len itemV_len its) (allOne_flat itemV_one its) (by simp only [maxLen]; omega) (by omega)) ?_
    rintro _ _ ⟨a1, c1, rfl, rfl⟩
    refine s_val rfl (v_assign rfl) (x_nil (n_then (x_ret (x_done (.inl rfl) (.cons (r_tmp rfl) .nil) ?_))))
    rw [Nat.zero_add, List.nil_append]
    exact ⟨_, ⟨a1, c1, rfl, rfl⟩, inferInstance⟩
def FoundP (its : List It) (p : It → Bool) (r : Int) : Prop := (r = -1 ∧ ∀ i, i < its.length → p (its.getD i default) = false) ∨ ∃ i : Nat, r = (i : Int) ∧ i < its.length ∧ p (its.getD i default) = true ∧ ∀ j, j < i → p (its.getD j default) = false
theorem idxP_spec (W0 : World) (R : List HP) (its : List It) (a : Option Addr) (c : Nat) (f : FuncId) (cs : List Value) (C : HP) (p : It → Bool) (hp : PF W0 f cs C p) (hN : its.length < 1000) :
    Spec Tryz.prog W0 142 [.slice a its.length c, .func (.func f) #[] cs.toArray]
      (osl 167 6 (.slice a its.length c) (its.flatMap itemV) :: kH 0 C :: R)
      (fun v B => ∃ r, v = .int .i64 r ∧ B = osl 167 6 (.slice a its.length c) (its.flatMap itemV) :: kH 0 C :: R ∧ FoundP its p r) := by
  refine spec_osl (fun h1 h2 => ?_) fun g n cap sp h1 h2 h3 h4 h5 => ?_
  · have h0 : its.length = 0 := by have := flat_len itemV_len its; rw [h2] at this; simp at this; omega
    obtain rfl : its = [] := List.eq_nil_of_length_eq_zero h0
    cases h1
    refine spec_body Tryz.func142 Tryz.ntmps142 rfl rfl ?_
    refine x_seq (x_region (s_val rfl (v_assign rfl) (x_nil (n_then (x_seq (x_seq (x_region (s_val rfl (v_move rfl) (s_val rfl (v_len_slice Tryz.underlying164 rfl) (s_val rfl (v_move rfl) (x_nil (n_then (x_block ?_)))))))))))))
    refine x_loop (fun X : Nat => True) (fun X => [(7, .int .i64 0), (8, .int .i64 X)]) (fun X => kH 0 C :: R) (fun X => X) 0 ?_ ?_ ?_ ?_
    · trivial
    · repeat (first | exact sub_nil | refine sub_cons rfl ?_)
    · exact inferInstance
    · intro j hj
      refine x_seq (x_region (s_val rfl (v_lss rfl rfl) (x_nil (n_then (x_seq ?_)))))
      refine x_if rfl ?_ ?_
      · intro c2
        omega
      · intro c2
        refine x_exit (e_then (e_then (e_block (n_then (x_seq (x_region (s_val rfl (v_assign rfl) (x_nil (n_then (x_ret (x_done (.inl rfl) (.cons (r_tmp rfl) .nil) ?_)))))))))))
        exact ⟨_, ⟨-1, rfl, rfl, .inl ⟨rfl, by simp⟩⟩, ent_osl_nil⟩
  · cases h1
    refine spec_body Tryz.func142 Tryz.ntmps142 rfl rfl ?_
    refine x_seq (x_region (s_val rfl (v_assign rfl) (x_nil (n_then (x_seq (x_seq (x_region (s_val rfl (v_move rfl) (s_val rfl (v_len_slice Tryz.underlying164 rfl) (s_val rfl (v_move rfl) (x_nil (n_then (x_block ?_)))))))))))))
    refine x_loop (fun X : Nat => X ≤ its.length ∧ ∀ i, i < X → p (its.getD i default) = false) (fun X => [(0, .slice (some ⟨g, 0, none⟩) its.length c), (1, .func (.func f) #[] cs.toArray), (7, .int .i64 (its.length : Nat)), (8, .int .i64 X)]) (fun X => pt g (cob (its.flatMap itemV ++ sp) 167) :: kH 0 C :: R) (fun X => its.length - X) 0 ?_ ?_ ?_ ?_
    · exact ⟨Nat.zero_le _, fun i h => absurd h (Nat.not_lt_zero _)⟩
    · repeat (first | exact sub_nil | refine sub_cons rfl ?_)
    · exact inferInstance
    · intro j ⟨hj, hno⟩
      refine x_seq (x_region (s_val rfl (v_lss rfl rfl) (x_nil (n_then (x_seq ?_)))))
      refine x_if rfl ?_ ?_
      · intro c2
        refine x_skip (n_then (x_seq (x_block (x_seq (x_region (s_val rfl (v_move rfl) (s_val rfl (v_assign rfl) (x_nil (n_then (x_seq (x_region (s_val rfl (v_move rfl) (s_val rfl (v_move rfl) (s_val rfl (v_move rfl) ?_))))))))))))))
        refine s_val rfl (v_idx Tryz.underlying164 Tryz.sizeOf167 rfl rfl rfl (by omega) (by first | exact Nat.zero_add _ | rfl)) ?_
        refine s_val rfl (v_loadAgg Tryz.isAgg167 Tryz.sizeOf167 rfl (cells_part (item_row its sp j (by omega)) rfl) rfl) ?_
        refine s_do rfl (d_callv1 (us := []) (cs := cs) rfl hp.call rfl (hp.spec (its.getD j default) _)) ?_
        rintro _ B_ ⟨rfl, hB_⟩
        obtain rfl := hB_.symm
        refine x_nil (n_then ?_)
        refine x_if rfl ?_ ?_
        · intro c4
          refine x_seq (x_region (s_val rfl (v_move rfl) (s_val rfl (v_assign rfl) (x_nil (n_then (x_ret (r_block (r_then (r_then (r_block (r_then (x_done (.inl rfl) (.cons (r_tmp rfl) .nil) ?_))))))))))))
          exact ⟨_, ⟨_, rfl, rfl, .inr ⟨j, rfl, by omega, c4, hno⟩⟩, ent_osl h2 h3 h4 h5⟩
        · intro c4
          refine x_skip (n_block (n_then (x_region ?_)))
          refine s_val rfl (v_add rfl rfl (by first | exact w64 (by omega) | rfl)) ?_
          refine s_val rfl (v_move rfl) (x_nil (n_then ?_))
          refine inv_intro (j + 1) ?_ ?_ ?_ ?_
          · refine ⟨by omega, fun i hi => ?_⟩
            by_cases e : i = j
            · subst e; simpa using c4
            · exact hno i (by omega)
          · omega
          · repeat (first | exact sub_nil | refine sub_cons rfl ?_)
          · exact inferInstance
      · intro c2
        refine x_exit (e_then (e_then (e_block (n_then (x_seq (x_region (s_val rfl (v_assign rfl) (x_nil (n_then (x_ret (x_done (.inl rfl) (.cons (r_tmp rfl) .nil) ?_)))))))))))
        exact ⟨_, ⟨-1, rfl, rfl, .inl ⟨rfl, fun i hi => hno i (by omega)⟩⟩, ent_osl h2 h3 h4 h5⟩
def keepL (p : It → Bool) (l : List It) : List It := l.filter (fun x => !p x)
theorem keep_none {p : It → Bool} {l : List It} (h : ∀ i, i < l.length → p (l.getD i default) = false) : keepL p l = l := List.filter_eq_self.2 fun x hx => by
  obtain ⟨i, hi, rfl⟩ := List.mem_iff_getElem.1 hx
  have := h i hi
  simpa [List.getD, hi] using this
theorem keep_take {p : It → Bool} {l : List It} {j : Nat} (h : j < l.length) : keepL p (l.take (j + 1)) = keepL p (l.take j) ++ (if p (l.getD j default) then [] else [l.getD j default]) := by
  rw [List.take_succ_eq_append_getElem h, keepL, List.filter_append, show l.getD j default = l[j] by simp [List.getD, h]]
  cases hp : p l[j] <;> simp [keepL, hp]
structure DelI (p : It → Bool) (its l : List It) (i j : Nat) : Prop where
  len : l.length = its.length
  ij : i < j
  jl : j ≤ its.length
  front : l.take i = keepL p (its.take j)
  back : ∀ k, j ≤ k → l.getD k default = its.getD k default
theorem keep_len {p : It → Bool} {l : List It} {i : Nat} (h : i < l.length) (hp : p (l.getD i default) = true) (hno : ∀ j, j < i → p (l.getD j default) = false) : keepL p (l.take (i + 1)) = l.take i := by
  rw [keep_take h, hp, if_pos rfl, List.append_nil]
  refine keep_none fun j hj => ?_
  rw [List.length_take] at hj
  have := hno j (by omega)
  simpa [List.getD, List.getElem?_take, show j < i by omega] using this
theorem DelI.skip {p : It → Bool} {its l : List It} {i j : Nat} (h : DelI p its l i j) (hj : j < its.length) (hp : p (l.getD j default) = true) : DelI p its l i (j + 1) := by
  refine ⟨h.len, by have := h.ij; omega, by omega, ?_, fun k hk => h.back k (by omega)⟩
  rw [h.back j (Nat.le_refl _)] at hp
  rw [keep_take hj, hp, if_pos rfl, List.append_nil]; exact h.front
theorem DelI.move {p : It → Bool} {its l : List It} {i j : Nat} (h : DelI p its l i j) (hj : j < its.length) (hp : p (l.getD j default) = false) : DelI p its (l.set i (l.getD j default)) (i + 1) (j + 1) := by
  have hij := h.ij
  have hl := h.len
  have hb := h.back j (Nat.le_refl _)
  rw [hb] at hp ⊢
  refine ⟨by rw [List.length_set]; exact hl, by omega, by omega, ?_, fun k hk => ?_⟩
  · rw [keep_take hj, hp, if_neg (by decide), ← h.front, List.take_succ_eq_append_getElem (by rw [List.length_set]; omega), List.getElem_set_self, List.take_set_of_le (Nat.le_refl _)]
  · rw [← h.back k (by omega)]
    simp only [List.getD_eq_getElem?_getD]
    rw [List.getElem?_set_ne (by omega)]
theorem deleteF_spec (W0 : World) (R : List HP) (its : List It) (a : Option Addr) (c : Nat) (f : FuncId) (cs : List Value) (C : HP) (p : It → Bool) (hp : PF W0 f cs C p) (hN : its.length < 1000) :
    Spec Tryz.prog W0 136 [.slice a its.length c, .func (.func f) #[] cs.toArray]
      (osl 167 6 (.slice a its.length c) (its.flatMap itemV) :: kH 0 C :: R)
      (fun v B => ∃ a' c', v = .slice a' (keepL p its).length c' ∧ B = osl 167 6 (.slice a' (keepL p its).length c') ((keepL p its).flatMap itemV) :: kH 0 C :: R) := by
  refine spec_body Tryz.func136 Tryz.ntmps136 rfl rfl ?_
  refine x_seq (x_region (s_val rfl (v_assign rfl) (x_nil (n_then (x_seq (x_region (s_val rfl (v_move rfl) (s_val rfl (v_move rfl) (s_do rfl (d_call2 Tryz.call142 rfl (idxP_spec W0 _ its a c f cs C p hp hN)) ?_)))))))))
  rintro _ B_ ⟨r, rfl, hB_, hf⟩
  obtain rfl := hB_.symm
  refine s_val rfl (v_assign rfl) (x_nil (n_then (x_seq (x_seq (x_region (s_val rfl (v_move rfl) (s_val rfl (v_eql rfl rfl) (x_nil (n_then ?_)))))))))
  refine x_if rfl ?_ ?_
  · intro c2
    refine x_seq (x_region (s_val rfl (v_move rfl) (s_val rfl (v_assign rfl) (x_nil (n_then (x_ret (r_then (x_done (.inl rfl) (.cons (r_tmp rfl) .nil) ?_))))))))
    have hno : ∀ i, i < its.length → p (its.getD i default) = false := by
      rcases hf with ⟨_, h⟩ | ⟨i, h, _⟩
      · exact h
      · omega
    rw [keep_none hno]
    exact ⟨_, ⟨a, c, rfl, rfl⟩, inferInstance⟩
  · intro c2
    obtain ⟨i, rfl, hi, hpi, hno⟩ : ∃ i : Nat, r = (i : Int) ∧ i < its.length ∧ p (its.getD i default) = true ∧ ∀ j, j < i → p (its.getD j default) = false := by
      rcases hf with ⟨h, _⟩ | h
      · omega
      · exact h
    refine run_tk (r := osl 167 6) (b := .slice a its.length c) ?_
    refine run_osl (fun h1 _ => by have := (Value.slice.inj h1).2.1; omega) fun g n cap sp h1 h2 h3 h4 h5 => ?_
    cases h1
    refine x_skip (n_then (x_seq (x_seq (x_region (s_val rfl (v_move rfl) ?_)))))
    refine s_val rfl (v_add rfl rfl (by rw [w64 (by omega)]; omega : IntKind.wrap .i64 ((i : Int) + 1) = ((i + 1 : Nat) : Int))) ?_
    refine s_val rfl (v_assign rfl) (x_nil (n_then (x_block ?_)))
    refine x_loop (fun X : List It × Nat × Nat => DelI p its X.1 X.2.1 X.2.2) (fun X => [(0, .slice (some ⟨g, 0, none⟩) its.length c), (1, .func (.func f) #[] cs.toArray), (5, .int .i64 X.2.1), (6, .int .i64 X.2.2)]) (fun X => pt g (cob (X.1.flatMap itemV ++ sp) 167) :: kH 0 C :: R) (fun X => its.length - X.2.2) (its, i, i + 1) ?_ ?_ ?_ ?_
    · exact ⟨rfl, Nat.lt_succ_self _, by show i + 1 ≤ its.length; omega, (keep_len hi hpi hno).symm, fun _ _ => rfl⟩
    · repeat (first | exact sub_nil | refine sub_cons rfl ?_)
    · exact inferInstance
    · intro ⟨l, m, j⟩ hD
      dsimp only at hD ⊢
      have hl := hD.len
      have hmj := hD.ij
      have hjl := hD.jl
      refine x_seq (x_seq (x_region (s_val rfl (v_move rfl) (s_val rfl (v_move rfl) (s_val rfl (v_len_slice Tryz.underlying164 rfl) (s_val rfl (v_lss rfl rfl) (x_nil (n_then ?_))))))))
      refine x_if rfl ?_ ?_
      · intro c5
        refine x_skip (n_then ?_)
        refine x_cut (fun Z : List It × Nat => DelI p its Z.1 Z.2 (j + 1)) (fun Z => [(0, .slice (some ⟨g, 0, none⟩) its.length c), (1, .func (.func f) #[] cs.toArray), (5, .int .i64 Z.2), (6, .int .i64 j)]) (fun Z => pt g (cob (Z.1.flatMap itemV ++ sp) 167) :: kH 0 C :: R) ?_ ?_
        · skip
          refine x_block (x_seq (x_region (s_val rfl (v_move rfl) (s_val rfl (v_move rfl) ?_))))
          refine s_val rfl (v_idx Tryz.underlying164 Tryz.sizeOf167 rfl rfl rfl (by omega) (by first | exact Nat.zero_add _ | rfl)) ?_
          refine s_val rfl (v_loadAgg Tryz.isAgg167 Tryz.sizeOf167 rfl (cells_part (item_row l sp j (by omega)) rfl) rfl) ?_
          refine s_do rfl (d_allocA Tryz.zeroValue167) ?_
          rintro _ _ ⟨bx, rfl, rfl⟩
          refine s_do0 (d_storeAll Tryz.sizeOf167 rfl rfl rfl rfl rfl) ?_
          rintro _ _ rfl
          refine x_nil (n_then (x_seq (x_region (s_val rfl (v_move rfl) (s_val rfl (v_loadAll Tryz.isAgg167 Tryz.sizeOf167 rfl rfl) ?_)))))
          refine s_do rfl (d_callv1 (us := []) (cs := cs) rfl hp.call rfl (hp.spec (l.getD j default) _)) ?_
          rintro _ B_ ⟨rfl, hB_⟩
          obtain rfl := hB_.symm
          refine s_val rfl (v_not rfl) (x_nil (n_then ?_))
          refine x_if rfl ?_ ?_
          · intro c8
            have hpj : p (l.getD j default) = false := by simpa using c8
            refine x_seq (x_region (s_val rfl (v_move rfl) (s_val rfl (v_move rfl) (s_val rfl (v_loadAll Tryz.isAgg167 Tryz.sizeOf167 rfl rfl) ?_))))
            refine s_val rfl (v_idx Tryz.underlying164 Tryz.sizeOf167 rfl rfl rfl (by omega) (by first | exact Nat.zero_add _ | rfl)) ?_
            refine s_do0 (d_storeAgg Tryz.sizeOf167 rfl rfl rfl rfl (item_bd l sp m (by omega)) (item_set l sp m (l.getD j default) (by omega))) ?_
            rintro _ _ rfl
            refine x_nil (n_then (x_region (s_val rfl (v_move rfl) ?_)))
            refine s_val rfl (v_add rfl rfl (by rw [w64 (by omega)]; omega : IntKind.wrap .i64 ((m : Int) + 1) = ((m + 1 : Nat) : Int))) ?_
            refine s_val rfl (v_assign rfl) (x_nil (n_block (n_then ?_)))
            refine mid_intro (l.set m (l.getD j default), m + 1) ?_ ?_ ?_
            · exact hD.move (by omega) hpj
            · repeat (first | exact sub_nil | refine sub_cons rfl ?_)
            · exact inferInstance
          · intro c8
            have hpj : p (l.getD j default) = true := by simpa using c8
            refine x_skip (n_block (n_then ?_))
            refine mid_intro (l, m) ?_ ?_ ?_
            · exact hD.skip (by omega) hpj
            · repeat (first | exact sub_nil | refine sub_cons rfl ?_)
            · exact inferInstance
        · intro ⟨l2, m2⟩ hD2
          refine x_region (s_val rfl (v_move rfl) ?_)
          refine s_val rfl (v_add rfl rfl (by rw [w64 (by omega)]; omega : IntKind.wrap .i64 ((j : Int) + 1) = ((j + 1 : Nat) : Int))) ?_
          refine s_val rfl (v_assign rfl) (x_nil (n_then ?_))
          refine inv_intro (l2, m2, j + 1) ?_ ?_ ?_ ?_
          · exact hD2
          · show its.length - (j + 1) < its.length - j; omega
          · repeat (first | exact sub_nil | refine sub_cons rfl ?_)
          · exact inferInstance
      · intro c5
        refine x_exit (e_then (e_then (e_block (n_then (x_seq ?_)))))
        obtain rfl : j = its.length := by omega
        have hfr := hD.front
        rw [List.take_of_length_le (Nat.le_refl _)] at hfr
        have hk : (keepL p its).length = m := by rw [← hfr, List.length_take]; omega
        refine x_region (s_val rfl (v_move rfl) (s_val rfl (v_move rfl) ?_))
        refine s_val rfl (v_sliceL Tryz.underlying164 Tryz.sizeOf167 rfl rfl rfl (by omega) (by omega) (Nat.zero_add _)) ?_
        refine s_do0 (d_clear Tryz.underlying164 Tryz.zeroValue167 (by simp [Value.cells, Value.oneCell']) rfl (by omega) (by rw [List.length_append, flat_len itemV_len]; show m * 6 + (its.length - m) * 6 ≤ _; omega)) ?_
        rintro _ B_ ⟨vs, hvs, rfl, hB_⟩
        obtain rfl := hB_.symm
        replace hvs : vs.length = (its.length - m) * 6 := hvs
        have hset : setR (l.flatMap itemV ++ sp) (m * 6) vs = (keepL p its).flatMap itemV ++ (vs ++ sp) := by
          rw [setR_eq _ _ _ (by rw [List.length_append, flat_len itemV_len]; omega), flat_take itemV_len l m sp (by omega), hfr, show m * 6 + vs.length = l.length * 6 by omega, flat_drop itemV_len l l.length sp (Nat.le_refl _)]
          simp
        rw [hset]
        refine x_nil (n_then (x_seq (x_region (s_val rfl (v_move rfl) (s_val rfl (v_move rfl) ?_)))))
        refine s_val rfl (v_sliceH Tryz.underlying164 Tryz.sizeOf167 rfl rfl rfl (by omega)) ?_
        refine s_val rfl (v_assign rfl) (x_nil (n_then (x_ret (x_done (.inl rfl) (.cons (r_tmp rfl) .nil) ?_))))
        rw [hk]
        exact ⟨_, ⟨_, _, rfl, rfl⟩, ent_osl (by omega) h3 (by rw [flat_len itemV_len, hk]) (by rw [← h5]; simp only [List.length_append, flat_len itemV_len, hk, hvs]; omega)⟩
end Go.Proofs.YtllkdnadmmjehaaGreatDoor
namespace Go.Proofs.YtllkdnadmmjehaaGreatDoor
open Go.RowKit
set_option linter.unusedSimpArgs false
set_option linter.unusedVariables false
set_option maxRecDepth 20000
def i64 (r : Int) : Prop := -9223372036854775808 ≤ r ∧ r < 9223372036854775808
theorem toNat_ofInt64 (r : Int) : ((BitVec.ofInt 64 r).toNat : Int) = r % 18446744073709551616 := by
  rw [BitVec.toNat_ofInt]; omega
theorem nand2 (n : Nat) : n &&& 2 = 2 * (n / 2 % 2) := by
  apply Nat.eq_of_testBit_eq
  intro i
  rw [Nat.testBit_and, show (2 : Nat) = 2 ^ 1 from rfl, Nat.testBit_two_pow, Nat.testBit_two_pow_mul]
  by_cases h : i = 1
  · subst h
    simp only [Nat.testBit, Nat.shiftRight_eq_div_pow]
    simp
  · by_cases h1 : 1 ≤ i
    · have h2 : n / 2 ^ 1 % 2 ^ 1 < 2 ^ (i - 1) := Nat.lt_of_lt_of_le (Nat.mod_lt _ (by decide)) (Nat.pow_le_pow_right (by decide) (by omega))
      simp [Nat.testBit_lt_two_pow h2, show ¬ 1 = i by omega]
    · simp [h1, show ¬ 1 = i by omega]
theorem bAnd_2 {r : Int} (h : i64 r) : bAnd .i64 r 2 = 2 * (r / 2 % 2) := by
  have hn := toNat_ofInt64 r
  show IntKind.wrap .i64 ((BitVec.ofInt 64 r &&& BitVec.ofInt 64 2).toNat : Int) = _
  rw [BitVec.toNat_and, show (BitVec.ofInt 64 2).toNat = 2 from rfl, nand2, w64 (by omega)]
  push_cast
  omega
theorem bAndNot_2 {r : Int} (h : i64 r) : bAndNot .i64 r 2 = r - 2 * (r / 2 % 2) := by
  have hn := toNat_ofInt64 r
  generalize hx : BitVec.ofInt 64 r = x at hn
  have e : (x &&& ~~~ BitVec.ofInt 64 2).toNat = x.toNat - (x.toNat &&& 2) := by
    have hz : (x &&& ~~~ BitVec.ofInt 64 2) &&& (x &&& BitVec.ofInt 64 2) = 0#64 := by
      ext i hi
      simp only [BitVec.getElem_and, BitVec.getElem_not, BitVec.getElem_zero]
      cases x[i] <;> cases (BitVec.ofInt 64 2)[i] <;> rfl
    have h1 : (x &&& ~~~ BitVec.ofInt 64 2) + (x &&& BitVec.ofInt 64 2) = x := by
      rw [BitVec.add_eq_or_of_and_eq_zero _ _ hz]
      ext i hi
      simp only [BitVec.getElem_or, BitVec.getElem_and, BitVec.getElem_not]
      cases x[i] <;> cases (BitVec.ofInt 64 2)[i] <;> rfl
    have h2 := congrArg BitVec.toNat h1
    rw [BitVec.toNat_add_of_and_eq_zero hz, BitVec.toNat_and x (BitVec.ofInt 64 2), show (BitVec.ofInt 64 2).toNat = 2 from rfl] at h2
    omega
  show IntKind.wrap .i64 ((BitVec.ofInt 64 r &&& ~~~ BitVec.ofInt 64 2).toNat : Int) = _
  rw [hx, e, nand2]
  have hlt := x.isLt
  obtain ⟨h1, h2⟩ := h
  simp only [IntKind.wrap, IntKind.bits, IntKind.signed]
  simp
  omega
def wB (r : Int) : Bool := decide (r / 2 % 2 = 1)
theorem wB_and {r : Int} (h : i64 r) : (bAnd .i64 r 2 ≠ 0) ↔ wB r = true := by rw [bAnd_2 h, wB, decide_eq_true_iff]; omega
theorem noW_eq {r : Int} (h : i64 r) : bAndNot .i64 r 2 = if wB r then r - 2 else r := by
  rw [bAndNot_2 h, wB]; split <;> simp_all <;> omega
def hit (page : Int) (x : It) : Bool := decide (x.ep = page) && wB x.er
def narI (page : Int) (x : It) : It := if hit page x then { x with er := x.er - 2 } else x
theorem narI_key (page : Int) (x : It) : (narI page x).key = x.key := by unfold narI; split <;> rfl
theorem narI_u (page : Int) (x : It) : (narI page x).u = x.u := by unfold narI; split <;> rfl
theorem narI_i64 {page : Int} {x : It} (h : i64 x.er) : i64 (narI page x).er := by
  unfold narI; split
  · rename_i hh
    simp only [hit, wB, Bool.and_eq_true, decide_eq_true_iff] at hh
    obtain ⟨h1, h2⟩ := h
    refine ⟨?_, ?_⟩
    · show -9223372036854775808 ≤ x.er - 2; omega
    · show x.er - 2 < 9223372036854775808; omega
  · exact h
theorem item_setE (its : List It) (sp : List Value) (i : Nat) (r : Int) (hi : i < its.length) : (its.flatMap itemV ++ sp).set (i * 6 + 4) (.int .i64 r) = (its.set i { its.getD i default with er := r }).flatMap itemV ++ sp :=
  flat_set1 itemV_len its i 4 _ _ sp hi (by decide) (by simp [List.getD, hi, itemV])
structure NarI (page : Int) (its l : List It) (i n : Nat) : Prop where
  len : l.length = its.length
  il : i ≤ its.length
  front : l.take i = (its.take i).map (narI page)
  back : ∀ k, i ≤ k → l.getD k default = its.getD k default
  cnt : n = ((its.take i).filter (hit page)).length
theorem NarI.step {page : Int} {its l : List It} {i n : Nat} (h : NarI page its l i n) (hi : i < its.length) : NarI page its (l.set i (narI page (l.getD i default))) (i + 1) (n + if hit page (l.getD i default) then 1 else 0) := by
  have hl := h.len
  have hb := h.back i (Nat.le_refl _)
  have hg : its.getD i default = its[i] := by simp [List.getD, hi]
  refine ⟨by rw [List.length_set]; exact hl, by omega, ?_, fun k hk => ?_, ?_⟩
  · rw [List.take_succ_eq_append_getElem (by rw [List.length_set]; omega), List.getElem_set_self, List.take_set_of_le (Nat.le_refl _), h.front, List.take_succ_eq_append_getElem hi, List.map_append, hb, hg]; rfl
  · rw [← h.back k (by omega)]
    simp only [List.getD_eq_getElem?_getD]
    rw [List.getElem?_set_ne (by omega)]
  · rw [List.take_succ_eq_append_getElem hi, List.filter_append, List.length_append, ← h.cnt, hb, hg]
    cases hh : hit page its[i] <;> simp [hh]
theorem NarI.skip {page : Int} {its l : List It} {i n : Nat} (h : NarI page its l i n) (hi : i < its.length) (hh : hit page (l.getD i default) = false) : NarI page its l (i + 1) n := by
  have := h.step hi
  rw [narI, hh, if_neg (by decide), if_neg (by decide), Nat.add_zero] at this
  have hs : l.set i (l.getD i default) = l := by
    have hl : i < l.length := by rw [h.len]; exact hi
    rw [show l.getD i default = l[i] by simp [List.getD, hl], List.set_getElem_self]
  rwa [hs] at this
theorem NarI.hits {page : Int} {its l : List It} {i n : Nat} (h : NarI page its l i n) (hi : i < its.length) (hh : hit page (l.getD i default) = true) : NarI page its (l.set i { l.getD i default with er := (l.getD i default).er - 2 }) (i + 1) (n + 1) := by
  have := h.step hi
  rw [narI, hh, if_pos rfl, if_pos rfl] at this
  exact this
def nrN (page : Int) (L : List It) : Nat := (L.filter (hit page)).length
theorem us_map {l : List It} {f : It → It} (hf : ∀ x, (f x).u = x.u) {i : Nat} (hi : i < l.length) : us (l.map f) i = us l i := by
  rw [us_eq (by simpa using hi), us_eq hi]; simp [hf]
theorem Rep.nar {its L : List It} {now : Nat} (h : Rep its now L) (page : Int) : Rep (its.map (narI page)) now (L.map (narI page)) := by
  refine ⟨h.perm.map _, fun c hc h0 => ?_, ?_, fun x hx => ?_, ?_⟩
  · rw [List.length_map] at hc
    rw [us_map (narI_u page) (by omega), us_map (narI_u page) hc]
    exact h.heap c hc h0
  · rw [List.pairwise_map]
    exact h.sort.imp fun {a b} hab => by rw [narI_u, narI_u]; exact hab
  · obtain ⟨y, hy, rfl⟩ := List.mem_map.1 hx
    rw [narI_u]; exact h.le y hy
  · rw [List.map_map, show It.key ∘ narI page = It.key from funext fun x => narI_key page x]
    exact h.keys
theorem Narrow_spec18 (W0 : World) (R : List HP) (b : Nat) (its : List It) (rm nw : Value) (page : Int) (hN : its.length < 1000) (hr : ∀ x ∈ its, i64 x.er) :
    Spec Tryz.prog W0 125 [.pointer (some ⟨b, 0, none⟩), .int .i64 page] (rowH b (its, [rm, nw, .bool true]) :: R)
      (fun v B => v = .int .i64 (nrN page its : Nat) ∧ B = rowH b (its.map (narI page), [rm, nw, .bool true]) :: R) := by
  refine spec_body Tryz.func125 Tryz.ntmps125 rfl rfl ?_
  refine x_seq (x_region (s_val rfl (v_assign rfl) (x_nil (n_then (x_seq (x_seq (x_region (s_val rfl (v_move rfl) (s_do rfl (d_call1 Tryz.call90 rfl (none_spec W0 _ b its rm nw)) ?_)))))))))
  rintro _ B_ ⟨rfl, hB_⟩
  obtain rfl := hB_.symm
  refine x_nil (n_then ?_)
  refine x_if rfl ?_ ?_
  · intro c1
    exact absurd c1 (by decide)
  · intro c1
    refine x_skip (n_then (x_seq (x_region (s_val rfl (v_assign rfl) (x_nil (n_then (x_seq (x_seq ?_))))))))
    refine run_row (b := b) fun a0 c0 => ?_
    refine x_region (s_val rfl (v_move rfl) (s_val rfl (v_nilCheck rfl) ?_))
    refine s_val rfl (v_fieldAddr rfl Tryz.underlying174 rfl Tryz.sizeOf172 rfl (by first | exact Nat.zero_add _ | rfl)) ?_
    refine s_val rfl (v_fieldAddr rfl Tryz.underlying172 rfl Tryz.sizeOf164 rfl (by first | exact Nat.zero_add _ | rfl)) ?_
    refine s_val rfl (v_load Tryz.isAgg164 rfl (cell_own rfl)) ?_
    refine s_val rfl (v_len_slice Tryz.underlying164 rfl) (s_val rfl (v_move rfl) (x_nil (n_then (x_block ?_))))
    refine x_loop (fun X : List It × Nat × Nat => NarI page its X.1 X.2.1 X.2.2) (fun X => [(0, .pointer (some ⟨b, 0, none⟩)), (1, .int .i64 page), (5, .int .i64 X.2.2), (15, .int .i64 (its.length : Nat)), (16, .int .i64 X.2.1)]) (fun X => rowH b (X.1, [rm, nw, .bool true]) :: R) (fun X => its.length - X.2.1) (its, 0, 0) ?_ ?_ ?_ ?_
    · exact ⟨rfl, Nat.zero_le _, by simp, fun _ _ => rfl, by simp⟩
    · repeat (first | exact sub_nil | refine sub_cons rfl ?_)
    · exact ent_row rfl
    · intro ⟨l, i, n⟩ hD
      dsimp only at hD ⊢
      have hl := hD.len
      have hil := hD.il
      have hcn : n ≤ its.length := by
        rw [hD.cnt]
        exact Nat.le_trans (List.length_filter_le _ _) (by rw [List.length_take]; omega)
      refine x_seq (x_region (s_val rfl (v_lss rfl rfl) (x_nil (n_then (x_seq ?_)))))
      refine x_if rfl ?_ ?_
      · intro c5
        have hil1 : i < l.length := by omega
        have hei : i64 (l.getD i default).er := by
          rw [hD.back i (Nat.le_refl _)]
          have hi2 : i < its.length := by omega
          have := hr _ (List.getElem_mem hi2)
          rwa [show its.getD i default = its[i] by simp [List.getD, hi2]]
        refine run_rowN (b := b) (pos_ne hil1) fun g c sp k1 k2 k3 => ?_
        refine x_skip (n_then ?_)
        refine x_cut (fun Z : List It × Nat => NarI page its Z.1 (i + 1) Z.2) (fun Z => [(0, .pointer (some ⟨b, 0, none⟩)), (1, .int .i64 page), (5, .int .i64 Z.2), (15, .int .i64 (its.length : Nat)), (16, .int .i64 i)]) (fun Z => rowH b (Z.1, [rm, nw, .bool true]) :: R) ?_ ?_
        · skip
          refine x_block (x_seq (x_region (s_val rfl (v_move rfl) (s_val rfl (v_assign rfl) (x_nil (n_then (x_seq (x_region (s_val rfl (v_move rfl) (s_val rfl (v_nilCheck rfl) ?_))))))))))
          refine s_val rfl (v_fieldAddr rfl Tryz.underlying174 rfl Tryz.sizeOf172 rfl (by first | exact Nat.zero_add _ | rfl)) ?_
          refine s_val rfl (v_fieldAddr rfl Tryz.underlying172 rfl Tryz.sizeOf164 rfl (by first | exact Nat.zero_add _ | rfl)) ?_
          refine s_val rfl (v_load Tryz.isAgg164 rfl (cell_own rfl)) ?_
          refine s_val rfl (v_move rfl) ?_
          refine s_val rfl (v_idx Tryz.underlying164 Tryz.sizeOf167 rfl rfl rfl hil1 (by first | exact Nat.zero_add _ | rfl)) ?_
          refine s_val rfl (v_fieldAddr rfl Tryz.underlying167 rfl Tryz.sizeOf68 rfl (by first | exact Nat.zero_add _ | rfl)) ?_
          refine s_val rfl (v_fieldAddr rfl Tryz.underlying68 rfl Tryz.sizeOf66 rfl (by first | exact Nat.zero_add _ | rfl)) ?_
          refine s_val rfl (v_assign rfl) (x_nil (n_then (x_seq (x_region (s_val rfl (v_move rfl) (s_val rfl (v_nilCheck rfl) ?_))))))
          refine s_val rfl (v_fieldAddr rfl Tryz.underlying66 rfl Tryz.sizeOf3 rfl (by first | exact Nat.zero_add _ | rfl)) ?_
          refine s_val rfl (v_load Tryz.isAgg3 rfl (cell_own ((item_get l sp i 2 hil1 (by decide)).trans rfl))) ?_
          refine s_val rfl (v_move rfl) (s_val rfl (v_eql rfl rfl) (s_val rfl (v_move rfl) ?_))
          refine s_and rfl rfl rfl ?_ ?_
          · intro g8_7
            refine s_val rfl (v_move rfl) (s_yes rfl rfl (s_val rfl (v_nilCheck rfl) (s_yes rfl rfl ?_)))
            refine s_val rfl (v_fieldAddr rfl Tryz.underlying66 rfl Tryz.sizeOf3 rfl (by first | exact Nat.zero_add _ | rfl)) ?_
            refine s_yes rfl rfl ?_
            refine s_val rfl (v_load Tryz.isAgg3 rfl (cell_own ((item_get l sp i 4 hil1 (by decide)).trans rfl))) ?_
            refine s_yes rfl rfl (s_val rfl (v_and rfl rfl rfl) ?_)
            refine s_yes rfl rfl (s_val rfl (v_neq rfl rfl) (s_val rfl (v_pick_t rfl rfl) (x_nil (n_then ?_))))
            refine x_if rfl ?_ ?_
            · intro c8
              refine x_seq (x_region (s_val rfl (v_move rfl) (s_val rfl (v_nilCheck rfl) ?_)))
              refine s_val rfl (v_fieldAddr rfl Tryz.underlying66 rfl Tryz.sizeOf3 rfl (by first | exact Nat.zero_add _ | rfl)) ?_
              refine s_val rfl (v_load Tryz.isAgg3 rfl (cell_own ((item_get l sp i 4 hil1 (by decide)).trans rfl))) ?_
              refine s_val rfl (v_andNot rfl rfl (by rw [noW_eq hei, if_pos ((wB_and hei).1 (by simpa using c8))] : bAndNot .i64 (l.getD i default).er 2 = (l.getD i default).er - 2)) ?_
              refine s_val rfl (v_nilCheck rfl) ?_
              refine s_val rfl (v_fieldAddr rfl Tryz.underlying66 rfl Tryz.sizeOf3 rfl (by first | exact Nat.zero_add _ | rfl)) ?_
              refine s_do0 (d_store Tryz.sizeOf3 rfl rfl rfl (by have := item_bd l sp i hil1; omega) (item_setE l sp i ((l.getD i default).er - 2) hil1)) ?_
              rintro _ _ rfl
              refine x_nil (n_then (x_region (s_val rfl (v_move rfl) ?_)))
              refine s_val rfl (v_add rfl rfl (by rw [w64 (by omega)]; omega : IntKind.wrap .i64 ((n : Int) + 1) = ((n + 1 : Nat) : Int))) ?_
              refine s_val rfl (v_assign rfl) (x_nil (n_block (n_then ?_)))
              refine mid_intro (l.set i { l.getD i default with er := (l.getD i default).er - 2 }, n + 1) ?_ ?_ ?_
              · have hw := (wB_and hei).1 (by simpa using c8)
                exact hD.hits (by omega) (by simp only [hit, Bool.and_eq_true, decide_eq_true_iff]; exact ⟨by omega, hw⟩)
              · repeat (first | exact sub_nil | refine sub_cons rfl ?_)
              · exact ent_rowN (b := b) rfl (by rw [List.length_set]) (by omega) k2 (by rw [← k3]; simp [flat_len itemV_len])
            · intro c8
              refine x_skip (n_block (n_then ?_))
              refine mid_intro (l, n) ?_ ?_ ?_
              · refine hD.skip (by omega) ?_
                first
                  | (have hne : ¬ (l.getD i default).ep = page := by omega
                     rw [hit, decide_eq_false hne]; rfl)
                  | (have hw : ¬ wB (l.getD i default).er = true := fun q => absurd ((wB_and hei).2 q) (by simpa using c8)
                     have hw' : wB (l.getD i default).er = false := by simpa using hw
                     rw [hit, hw', Bool.and_false])
              · repeat (first | exact sub_nil | refine sub_cons rfl ?_)
              · exact ent_rowN (b := b) rfl rfl (by omega) k2 k3
          · intro g8_7
            refine s_no rfl rfl rfl rfl (s_no rfl rfl rfl rfl (s_no rfl rfl rfl rfl (s_no rfl rfl rfl rfl (s_no rfl rfl rfl rfl (s_val rfl (v_pick_f rfl rfl) (x_nil (n_then (x_iff rfl (x_skip (n_block (n_then ?_)))))))))))
            refine mid_intro (l, n) ?_ ?_ ?_
            · refine hD.skip (by omega) ?_
              first
                | (have hne : ¬ (l.getD i default).ep = page := by omega
                   rw [hit, decide_eq_false hne]; rfl)
                | (have hw : ¬ wB (l.getD i default).er = true := fun q => absurd ((wB_and hei).2 q) (by simpa using c8)
                   have hw' : wB (l.getD i default).er = false := by simpa using hw
                   rw [hit, hw', Bool.and_false])
            · repeat (first | exact sub_nil | refine sub_cons rfl ?_)
            · exact ent_rowN (b := b) rfl rfl (by omega) k2 k3
        · intro ⟨l2, n2⟩ hD2
          refine x_region ?_
          refine s_val rfl (v_add rfl rfl (by first | exact w64 (by omega) | rfl)) ?_
          refine s_val rfl (v_move rfl) (x_nil (n_then ?_))
          refine inv_intro (l2, i + 1, n2) ?_ ?_ ?_ ?_
          · exact hD2
          · show its.length - (i + 1) < its.length - i; omega
          · repeat (first | exact sub_nil | refine sub_cons rfl ?_)
          · exact inferInstance
      · intro c5
        refine x_exit (e_then (e_then (e_block (n_then (x_seq (x_region (s_val rfl (v_move rfl) (s_val rfl (v_assign rfl) (x_nil (n_then (x_ret (x_done (.inl rfl) (.cons (r_tmp rfl) .nil) ?_))))))))))))
        obtain rfl : i = its.length := by omega
        have hfr := hD.front
        have hct := hD.cnt
        rw [List.take_of_length_le (by omega), List.take_of_length_le (Nat.le_refl _)] at hfr
        rw [List.take_of_length_le (Nat.le_refl _)] at hct
        rw [hct, hfr]
        exact ⟨_, ⟨rfl, rfl⟩, inferInstance⟩
theorem Rep.keep {its its' L : List It} {now : Nat} {p : It → Bool} (h : Rep its now L) (hp : its'.Perm (keepL p its)) (hh : Heap its' its'.length) : Rep its' now (keepL p L) :=
  ⟨hp.trans (h.perm.filter _), hh, h.sort.filter _, fun x hx => h.le x (List.mem_filter.1 hx).1, List.Sublist.nodup (List.Sublist.map _ List.filter_sublist) h.keys⟩
theorem keep_le (p : It → Bool) (l : List It) : (keepL p l).length ≤ l.length := List.length_filter_le _ _
theorem forget_spec (W0 : World) (R : List HP) (b : Nat) (its : List It) (tl : List Value) (f : FuncId) (cs : List Value) (C : HP) (p : It → Bool) (hp : PF W0 f cs C p) (hN : its.length < 1000) :
    Spec Tryz.prog W0 105 [.pointer (some ⟨b, 0, none⟩), .func (.func f) #[] cs.toArray] (rowH b (its, tl) :: kH 0 C :: R)
      (fun v B => ∃ l, v = .int .i64 (its.length - (keepL p its).length : Nat) ∧ B = rowH b (l, tl) :: kH 0 C :: R ∧ l.Perm (keepL p its) ∧ Heap l l.length) := by
  have hkl := keep_le p its
  refine spec_body Tryz.func105 Tryz.ntmps105 rfl rfl ?_
  refine x_seq (x_region (s_val rfl (v_assign rfl) (x_nil (n_then (x_seq (x_region (s_val rfl (v_move rfl) (s_val rfl (v_nilCheck rfl) ?_))))))))
  refine s_val rfl (v_fieldAddr rfl Tryz.underlying174 rfl Tryz.sizeOf172 rfl (by first | exact Nat.zero_add _ | rfl)) ?_
  refine s_do rfl (d_call1 Tryz.call121 rfl (rowLen_spec W0 _ b its tl)) ?_
  rintro _ B_ ⟨rfl, hB_⟩
  obtain rfl := hB_.symm
  refine s_val rfl (v_assign rfl) (x_nil (n_then (x_seq ?_)))
  refine run_row (b := b) fun a c => ?_
  refine run_sla (E := 167) (sz := 6) (a := a) (n := its.length) (c := c) itemV its itemV_len (by decide) rfl (fun hs => ?_)
  refine x_region (s_val rfl (v_move rfl) (s_val rfl (v_move rfl) (s_val rfl (v_nilCheck rfl) ?_)))
  refine s_val rfl (v_fieldAddr rfl Tryz.underlying174 rfl Tryz.sizeOf172 rfl (by first | exact Nat.zero_add _ | rfl)) ?_
  refine s_val rfl (v_fieldAddr rfl Tryz.underlying172 rfl Tryz.sizeOf164 rfl (by first | exact Nat.zero_add _ | rfl)) ?_
  refine s_val rfl (v_load Tryz.isAgg164 rfl (cell_own rfl)) ?_
  refine s_do rfl (d_call Tryz.call137 rfl (cloneIt_spec W0 _ its a c hN hs)) ?_
  rintro _ B_ ⟨a2, c2, rfl, hB_⟩
  obtain rfl := hB_.symm
  refine s_val rfl (v_move rfl) (s_do rfl (d_call2 Tryz.call136 rfl (deleteF_spec W0 _ its a2 c2 f cs C p hp hN)) ?_)
  rintro _ B_ ⟨a3, c3, rfl, hB_⟩
  obtain rfl := hB_.symm
  refine s_val rfl (v_nilCheck rfl) ?_
  refine s_val rfl (v_fieldAddr rfl Tryz.underlying174 rfl Tryz.sizeOf172 rfl (by first | exact Nat.zero_add _ | rfl)) ?_
  refine s_val rfl (v_fieldAddr rfl Tryz.underlying172 rfl Tryz.sizeOf164 rfl (by first | exact Nat.zero_add _ | rfl)) ?_
  refine s_do0 (d_store Tryz.sizeOf164 rfl rfl rfl (Nat.le_of_ble_eq_true rfl) SetL.eq) ?_
  rintro _ _ rfl
  refine x_nil (n_then (x_seq (run_ent (B := rowH b (keepL p its, tl) :: kH 0 C :: R) (ent_row rfl) ?_)))
  refine x_region (s_val rfl (v_move rfl) (s_val rfl (v_nilCheck rfl) ?_))
  refine s_val rfl (v_fieldAddr rfl Tryz.underlying174 rfl Tryz.sizeOf172 rfl (by first | exact Nat.zero_add _ | rfl)) ?_
  refine s_val rfl (v_mkI Tryz.underlying196 (fun _ h => nomatch h) rfl) ?_
  refine s_do rfl (d_call1 Tryz.call138 rfl (heapInit_spec W0 _ b (keepL p its) tl (by omega))) ?_
  rintro _ B_ ⟨l, rfl, hB_, hp2, hh⟩
  obtain rfl := hB_.symm
  have hll := hp2.length_eq
  refine x_nil (n_then (x_seq (x_region (s_val rfl (v_move rfl) (s_val rfl (v_move rfl) (s_val rfl (v_nilCheck rfl) ?_))))))
  refine s_val rfl (v_fieldAddr rfl Tryz.underlying174 rfl Tryz.sizeOf172 rfl (by first | exact Nat.zero_add _ | rfl)) ?_
  refine s_do rfl (d_call1 Tryz.call121 rfl (rowLen_spec W0 _ b l tl)) ?_
  rintro _ B_ ⟨rfl, hB_⟩
  obtain rfl := hB_.symm
  refine s_val rfl (v_sub rfl rfl (by rw [w64 (by omega)]; omega : IntKind.wrap .i64 ((its.length : Int) - (l.length : Int)) = ((its.length - (keepL p its).length : Nat) : Int))) ?_
  refine s_val rfl (v_assign rfl) (x_nil (n_then (x_ret (x_done (.inl rfl) (.cons (r_tmp rfl) .nil) ?_))))
  exact ⟨_, ⟨l, rfl, rfl, hp2, hh⟩, inferInstance⟩
theorem flush1_pf (W0 : World) : PF W0 106 [] (grp []) (fun _ => true) := ⟨Tryz.call106, fun x R => by
  refine spec_body Tryz.func106 Tryz.ntmps106 rfl rfl ?_
  refine x_seq (x_region (s_do rfl (d_boxA rfl) ?_))
  rintro _ _ ⟨b1, rfl, rfl⟩
  refine s_val rfl (v_assign rfl) (x_nil (n_then (x_seq (x_region (s_val rfl (v_assign rfl) (x_nil (n_then (x_ret (x_done (.inl rfl) (.cons (r_tmp rfl) .nil) ?_)))))))))
  exact ⟨_, ⟨rfl, rfl⟩, inferInstance⟩
  ⟩
theorem keep_all (l : List It) : keepL (fun _ => true) l = [] := by simp [keepL]
theorem Flush_spec18 (W0 : World) (R : List HP) (b : Nat) (its : List It) (rm nw : Value) (now : Nat) (L : List It) (hR : Rep its now L) (hN : its.length < 1000) :
    Spec Tryz.prog W0 69 [.pointer (some ⟨b, 0, none⟩)] (rowH b (its, [rm, nw, .bool true]) :: R)
      (fun v B => v = .int .i64 (L.length : Nat) ∧ ∃ its', B = rowH b (its', [rm, nw, .bool true]) :: R ∧ Rep its' now []) := by
  have hlen := hR.length
  refine spec_body Tryz.func69 Tryz.ntmps69 rfl rfl ?_
  refine x_seq (x_region (s_val rfl (v_assign rfl) (x_nil (n_then (x_seq (x_seq (x_region (s_val rfl (v_move rfl) (s_do rfl (d_call1 Tryz.call90 rfl (none_spec W0 _ b its rm nw)) ?_)))))))))
  rintro _ B_ ⟨rfl, hB_⟩
  obtain rfl := hB_.symm
  refine x_nil (n_then ?_)
  refine x_if rfl ?_ ?_
  · intro c1
    exact absurd c1 (by decide)
  · intro c1
    refine x_skip (n_then (x_seq (run_ent (B := rowH b (its, [rm, nw, .bool true]) :: kH 0 (grp []) :: R) inferInstance ?_)))
    refine x_region (s_val rfl (v_move rfl) (s_do rfl (d_call2 Tryz.call105 rfl (forget_spec W0 _ b its _ 106 [] _ _ (flush1_pf W0) hN)) ?_))
    rintro _ B_ ⟨l, rfl, hB_, hp, hh⟩
    obtain rfl := hB_.symm
    rw [keep_all] at hp
    rw [keep_all, hlen]
    refine s_val rfl (v_assign rfl) (x_nil (n_then (x_ret (x_done (.inl rfl) (.cons (r_tmp rfl) .nil) ?_))))
    have hk := hR.keep (p := fun _ => true) (by rw [keep_all]; exact hp) hh
    rw [keep_all] at hk
    exact ⟨_, ⟨rfl, l, rfl, hk⟩, inferInstance⟩
end Go.Proofs.YtllkdnadmmjehaaGreatDoor
namespace Go.Proofs.YtllkdnadmmjehaaGreatDoor
open Go.RowKit
set_option linter.unusedSimpArgs false
set_option linter.unusedVariables false
structure Ln where
  k : Key
  e : Ent3
  rt : Int
  lf : Int
instance : Inhabited Ln := ⟨⟨(0, 0), (0, 0, 0), 0, 0⟩⟩
@[reducible] def lnV (x : Ln) : List Value := [.int .i64 x.k.1, .int .i64 x.k.2, .int .i64 x.e.1, .int .i64 x.e.2.1, .int .i64 x.e.2.2, .int .i64 x.rt, .int .i64 x.lf]
theorem lnV_len (x : Ln) : (lnV x).length = 7 := rfl
theorem lnV_one (x : Ln) : allOne (lnV x) = true := rfl
def Ln.thr (x : Ln) (p : Int) : Bool := decide (x.rt = p) || decide (x.lf = p)
theorem thr_iff {x : Ln} {p : Int} : x.thr p = true ↔ x.rt = p ∨ x.lf = p := by simp [Ln.thr]
def shT (L : List Ln) (p : Int) : Bool := L.any fun x => x.thr p
theorem shT_iff {L : List Ln} {p : Int} : shT L p = true ↔ ∃ x ∈ L, x.thr p = true := by simp [shT]
def noW (r : Int) : Int := if wB r then r - 2 else r
theorem noW_w (r : Int) : wB (noW r) = false := by
  unfold noW; split
  · rename_i h
    simp only [wB, decide_eq_true_iff] at h
    simp only [wB, decide_eq_false_iff_not]; omega
  · rename_i h; simpa using h
def Ln.nar (x : Ln) : Ln := { x with e := (x.e.1, x.e.2.1, noW x.e.2.2) }
theorem nar_no {x : Ln} (h : wB x.e.2.2 = false) : x.nar = x := by
  obtain ⟨k, ⟨e1, e2, e3⟩, r, l⟩ := x
  simp only [Ln.nar, noW] at h ⊢
  rw [h]; rfl
def shFr (L : List Ln) (r l : Int) : List Int := (if r = l then [r] else [min r l, max r l]).filter fun p => !shT L p
theorem shFr_mem {L : List Ln} {r l p : Int} : p ∈ shFr L r l ↔ (p = r ∨ p = l) ∧ shT L p = false := by
  unfold shFr
  rw [List.mem_filter]
  have : p ∈ (if r = l then [r] else [min r l, max r l]) ↔ (p = r ∨ p = l) := by
    split
    · rename_i h; subst h; simp
    · simp only [List.mem_cons, List.not_mem_nil, or_false]; omega
  rw [this]; simp
def prI (r l : Int) (x : Ln) : Ln := if x.e.1 = r ∨ x.e.1 = l then x.nar else x
def lastN (L : List Ln) : List Ln := match L.getLast? with
  | none => []
  | some y => L.dropLast ++ [if shT L y.e.1 then y.nar else y]
def shAdd (k : Key) (e : Ent3) (r l : Int) (L : List Ln) : List Ln := L.filter (fun x => decide (x.k ≠ k)) ++ [⟨k, e, r, l⟩]
def shCut (L : List Ln) : List Ln := if 32 < L.length then L.tail else L
def shFill (k : Key) (e : Ent3) (r l : Int) (L : List Ln) : List Ln := lastN ((shCut (shAdd k e r l L)).map (prI r l))
def shGet (k : Key) (L : List Ln) : Option Ln := L.find? fun x => decide (x.k = k)
theorem lastN_snoc (L : List Ln) (y : Ln) : lastN (L ++ [y]) = L ++ [if shT (L ++ [y]) y.e.1 then y.nar else y] := by
  unfold lastN
  rw [List.getLast?_append]; simp
theorem thr_nar (x : Ln) (p : Int) : x.nar.thr p = x.thr p := rfl
theorem thr_prI (r l : Int) (x : Ln) (p : Int) : (prI r l x).thr p = x.thr p := by unfold prI; split <;> rfl
theorem k_prI (r l : Int) (x : Ln) : (prI r l x).k = x.k := by unfold prI; split <;> rfl
theorem p_prI (r l : Int) (x : Ln) : (prI r l x).e.1 = x.e.1 := by unfold prI; split <;> rfl
theorem shT_map {f : Ln → Ln} (h : ∀ x p, (f x).thr p = x.thr p) (L : List Ln) (p : Int) : shT (L.map f) p = shT L p := by
  unfold shT; rw [List.any_map]; congr 1; funext x; exact h x p
theorem shT_app (A B : List Ln) (p : Int) : shT (A ++ B) p = (shT A p || shT B p) := by simp [shT]
def shOld (k : Key) (L : List Ln) : List Ln := if 31 < (L.filter fun x => decide (x.k ≠ k)).length then (L.filter fun x => decide (x.k ≠ k)).tail else L.filter fun x => decide (x.k ≠ k)
theorem shOld_sub (k : Key) (L : List Ln) : (shOld k L).Sublist (L.filter fun x => decide (x.k ≠ k)) := by
  unfold shOld; split
  · exact List.tail_sublist _
  · exact List.Sublist.refl _
theorem shOld_mem {k : Key} {L : List Ln} {x : Ln} (h : x ∈ shOld k L) : x ∈ L ∧ x.k ≠ k := by
  have := (shOld_sub k L).subset h
  rw [List.mem_filter] at this
  exact ⟨this.1, of_decide_eq_true this.2⟩
theorem shOld_len {k : Key} {L : List Ln} (h : L.length ≤ 32) : (shOld k L).length ≤ 31 := by
  have hf := List.length_filter_le (fun x : Ln => decide (x.k ≠ k)) L
  unfold shOld; split
  · rw [List.length_tail]; omega
  · omega
def shNew (k : Key) (e : Ent3) (r l : Int) (L : List Ln) : Ln :=
  if shT (shOld k L) e.1 || (⟨k, e, r, l⟩ : Ln).thr e.1 then (⟨k, e, r, l⟩ : Ln).nar else ⟨k, e, r, l⟩
theorem nar_nar (x : Ln) : x.nar.nar = x.nar := nar_no (noW_w _)
theorem shFill_eq (k : Key) (e : Ent3) (r l : Int) (L : List Ln) (h : L.length ≤ 32) : shFill k e r l L = (shOld k L).map (prI r l) ++ [shNew k e r l L] := by
  have hc : shCut (shAdd k e r l L) = shOld k L ++ [⟨k, e, r, l⟩] := by
    unfold shCut shAdd shOld
    rw [List.length_append, List.length_singleton]
    by_cases q : 31 < (L.filter fun x => decide (x.k ≠ k)).length
    · rw [if_pos (by omega), if_pos q]
      cases e1 : (L.filter fun x => decide (x.k ≠ k)) with
      | nil => rw [e1] at q; simp at q
      | cons a t => rfl
    · rw [if_neg (by omega), if_neg q]
  unfold shFill
  rw [hc, List.map_append, List.map_singleton, lastN_snoc]
  congr 1
  rw [← List.map_singleton (f := prI r l), ← List.map_append, shT_map (thr_prI r l), shT_app, p_prI]
  have ht : shT [(⟨k, e, r, l⟩ : Ln)] e.1 = (⟨k, e, r, l⟩ : Ln).thr e.1 := by simp [shT]
  rw [ht]
  unfold shNew
  by_cases q : e.1 = r ∨ e.1 = l
  · have h1 : prI r l ⟨k, e, r, l⟩ = (⟨k, e, r, l⟩ : Ln).nar := if_pos q
    have h2 : (⟨k, e, r, l⟩ : Ln).thr e.1 = true := by
      rw [thr_iff]; exact q.imp Eq.symm Eq.symm
    rw [h1, h2, Bool.or_true, if_pos rfl, if_pos rfl, nar_nar]
  · have h1 : prI r l ⟨k, e, r, l⟩ = ⟨k, e, r, l⟩ := if_neg q
    rw [h1]
theorem shNew_k (k : Key) (e : Ent3) (r l : Int) (L : List Ln) : (shNew k e r l L).k = k := by unfold shNew; split <;> rfl
theorem shNew_e (k : Key) (e : Ent3) (r l : Int) (L : List Ln) : shNew k e r l L = ⟨k, e, r, l⟩ ∨ shNew k e r l L = (⟨k, e, r, l⟩ : Ln).nar := by unfold shNew; split <;> simp
structure TI (L : List Ln) (TL : List It) : Prop where
  keys : (L.map Ln.k).Nodup
  len : L.length ≤ 32
  nowr : ∀ x ∈ L, wB x.e.2.2 = true → shT L x.e.1 = false
  sub : ∀ y ∈ TL, ∃ x ∈ L, x.k = y.key ∧ x.e = y.ent
theorem TI.nil : TI [] [] := ⟨List.nodup_nil, Nat.zero_le _, fun x hx => by simp at hx, fun y hy => by simp at hy⟩
theorem get_mem {k : Key} {L : List Ln} {x : Ln} (h : shGet k L = some x) : x ∈ L ∧ x.k = k := ⟨List.mem_of_find?_eq_some h, by simpa using List.find?_some h⟩
theorem key_uniq {L : List Ln} (h : (L.map Ln.k).Nodup) {x y : Ln} (hx : x ∈ L) (hy : y ∈ L) (e : x.k = y.k) : x = y := by
  induction L with
  | nil => simp at hx
  | cons a L ih =>
    simp only [List.map_cons, List.nodup_cons] at h
    rcases List.mem_cons.1 hx with rfl | hx1
    · rcases List.mem_cons.1 hy with rfl | hy1
      · rfl
      · exact absurd (List.mem_map_of_mem (f := Ln.k) hy1) (by rw [← e]; exact h.1)
    · rcases List.mem_cons.1 hy with rfl | hy1
      · exact absurd (List.mem_map_of_mem (f := Ln.k) hx1) (by rw [e]; exact h.1)
      · exact ih h.2 hx1 hy1
theorem get_uniq {L : List Ln} (h : (L.map Ln.k).Nodup) {x : Ln} (hx : x ∈ L) : shGet x.k L = some x := by
  cases hf : shGet x.k L with
  | none =>
    have := List.find?_eq_none.1 hf x hx
    simp at this
  | some z =>
    obtain ⟨h1, h2⟩ := get_mem hf
    rw [key_uniq h h1 hx h2]
theorem TI.drop {L : List Ln} {TL TL' : List It} (h : TI L TL) (f : Ln → Bool) (hs : ∀ y ∈ TL', y ∈ TL ∧ ∀ x ∈ L, f x = true → y.key ≠ x.k) : TI (L.filter fun x => !f x) TL' := by
  refine ⟨List.Sublist.nodup (List.Sublist.map _ List.filter_sublist) h.keys, Nat.le_trans (List.length_filter_le _ _) h.len, fun x hx hw => ?_, fun y hy => ?_⟩
  · have hx := (List.mem_filter.1 hx).1
    have := h.nowr x hx hw
    rw [← Bool.not_eq_true, shT_iff] at this ⊢
    rintro ⟨z, hz, hz2⟩
    exact this ⟨z, (List.mem_filter.1 hz).1, hz2⟩
  · obtain ⟨h1, h2⟩ := hs y hy
    obtain ⟨x, hx, e1, e2⟩ := h.sub y h1
    refine ⟨x, List.mem_filter.2 ⟨hx, ?_⟩, e1, e2⟩
    cases hf : f x with
    | false => rfl
    | true => exact absurd e1.symm (h2 x hx hf)
theorem mem_putBack {k : Key} {x y : It} {L : List It} : y ∈ putBack k x L ↔ (y ∈ L ∧ y.key ≠ k) ∨ y = x := by simp [putBack, mem_without]
theorem TI.getT {L : List Ln} {TL : List It} (h : TI L TL) (now : Nat) (k : Key) : TI L (getL now k TL) := by
  refine ⟨h.keys, h.len, h.nowr, fun y hy => ?_⟩
  unfold getL at hy
  cases hf : findK k TL with
  | none => rw [hf] at hy; exact h.sub y hy
  | some z =>
    rw [hf] at hy
    obtain ⟨h1, h2⟩ := find_mem hf
    rcases mem_putBack.1 hy with ⟨q, _⟩ | rfl
    · exact h.sub y q
    · obtain ⟨x, hx, e1, e2⟩ := h.sub z h1
      exact ⟨x, hx, by rw [e1, h2]; rfl, by rw [e2]; rfl⟩
theorem mem_putL {room now : Nat} {k : Key} {e : Ent3} {L : List It} {y : It} (h : y ∈ putL room now k e L) : (y ∈ L ∧ y.key ≠ k) ∨ y = mkIt k e (now + 1 : Nat) := by
  unfold putL at h
  split at h
  · exact mem_putBack.1 (List.mem_of_mem_tail h)
  · exact mem_putBack.1 h
theorem TI.putT {L : List Ln} {TL : List It} (h : TI L TL) (room now : Nat) {x : Ln} (hx : x ∈ L) : TI L (putL room now x.k x.e TL) := by
  refine ⟨h.keys, h.len, h.nowr, fun y hy => ?_⟩
  rcases mem_putL hy with ⟨q, _⟩ | rfl
  · exact h.sub y q
  · exact ⟨x, hx, rfl, rfl⟩
def narL (l : List Int) (TL : List It) : List It := l.foldl (fun A p => A.map (narI p)) TL
theorem narI_ent (p : Int) (y : It) : (narI p y).ent = if y.ep = p then (y.ent.1, y.ent.2.1, noW y.ent.2.2) else y.ent := by
  unfold narI hit noW
  by_cases q : y.ep = p
  · rw [decide_eq_true q, Bool.true_and, if_pos q]
    show _ = (y.ep, y.ef, if wB y.er = true then y.er - 2 else y.er)
    cases hw : wB y.er <;> rfl
  · rw [decide_eq_false q, Bool.false_and, if_neg q]; rfl
theorem mem_narL {l : List Int} : ∀ {TL : List It} {y : It}, y ∈ narL l TL → ∃ z ∈ TL, y.key = z.key ∧ y.ent = if z.ep ∈ l then (z.ent.1, z.ent.2.1, noW z.ent.2.2) else z.ent := by
  induction l with
  | nil => intro TL y h; exact ⟨y, h, rfl, by simp⟩
  | cons p l ih =>
    intro TL y h
    obtain ⟨z, hz, h1, h2⟩ := ih (TL := TL.map (narI p)) h
    obtain ⟨w, hw, rfl⟩ := List.mem_map.1 hz
    refine ⟨w, hw, by rw [h1, narI_key], ?_⟩
    have hep : (narI p w).ep = w.ep := by unfold narI; split <;> rfl
    rw [h2, hep, narI_ent]
    by_cases q1 : w.ep = p
    · rw [if_pos q1, if_pos (List.mem_cons.2 (.inl q1))]
      split
      · have := noW_w w.ent.2.2
        show (w.ent.1, w.ent.2.1, noW (noW w.ent.2.2)) = _
        rw [show noW (noW w.ent.2.2) = noW w.ent.2.2 by rw [noW, this]; rfl]
      · rfl
    · rw [if_neg q1]
      by_cases q2 : w.ep ∈ l
      · rw [if_pos q2, if_pos (List.mem_cons.2 (.inr q2))]
      · rw [if_neg q2, if_neg (fun h => (List.mem_cons.1 h).elim q1 q2)]
theorem TI.fill {L : List Ln} {TL : List It} (h : TI L TL) (k : Key) (e : Ent3) (r l : Int) (room now : Nat) :
    TI (shFill k e r l L) ((putL room now k (shNew k e r l L).e (narL (shFr L r l) TL)).filter fun y => (shGet y.key (shFill k e r l L)).isSome) := by
  have hE := shFill_eq k e r l L h.len
  have hold : ∀ x ∈ shOld k L, x ∈ L ∧ x.k ≠ k := fun x hx => shOld_mem hx
  have hTo : ∀ p, shT (shFill k e r l L) p = (shT (shOld k L) p || (⟨k, e, r, l⟩ : Ln).thr p) := fun p => by
    rw [hE, shT_app, shT_map (thr_prI r l)]
    congr 1
    rcases shNew_e k e r l L with q | q <;> rw [q] <;> simp [shT, thr_nar]
  have hkeys : ((shFill k e r l L).map Ln.k).Nodup := by
    rw [hE, List.map_append, List.map_map, show Ln.k ∘ prI r l = Ln.k from funext fun x => k_prI r l x, List.map_singleton, shNew_k]
    refine List.nodup_append.2 ⟨List.Sublist.nodup (List.Sublist.map _ ((shOld_sub k L).trans List.filter_sublist)) h.keys, by simp, fun a ha b hb => ?_⟩
    obtain rfl : b = k := by simpa using hb
    obtain ⟨x, hx, rfl⟩ := List.mem_map.1 ha
    exact (hold x hx).2
  have hnew : shNew k e r l L ∈ shFill k e r l L := by rw [hE]; simp
  refine ⟨hkeys, ?_, fun x hx hw => ?_, fun y hy => ?_⟩
  · rw [hE, List.length_append, List.length_map, List.length_singleton]
    have := shOld_len (k := k) h.len; omega
  · rw [hTo]
    rw [hE] at hx
    rcases List.mem_append.1 hx with hx | hx
    · obtain ⟨z, hz, rfl⟩ := List.mem_map.1 hx
      obtain ⟨hzL, _⟩ := hold z hz
      rw [p_prI]
      by_cases q : z.e.1 = r ∨ z.e.1 = l
      · rw [prI, if_pos q] at hw
        rw [show z.nar.e.2.2 = noW z.e.2.2 from rfl, noW_w] at hw; cases hw
      · rw [prI, if_neg q] at hw
        have h1 := h.nowr z hzL hw
        rw [Bool.or_eq_false_iff]
        refine ⟨?_, ?_⟩
        · rw [← Bool.not_eq_true, shT_iff] at h1 ⊢
          rintro ⟨u, hu, hu2⟩
          exact h1 ⟨u, (hold u hu).1, hu2⟩
        · rw [← Bool.not_eq_true, thr_iff]
          rintro (e1 | e1)
          · exact q (.inl e1.symm)
          · exact q (.inr e1.symm)
    · obtain rfl : x = shNew k e r l L := by simpa using hx
      unfold shNew at hw ⊢
      split at hw
      · rw [show (Ln.nar ⟨k, e, r, l⟩).e.2.2 = noW e.2.2 from rfl, noW_w] at hw; cases hw
      · rename_i q
        rw [if_neg q]
        exact (by simpa using q)
  · obtain ⟨hy1, hy2⟩ := List.mem_filter.1 hy
    rcases mem_putL hy1 with ⟨q, hne⟩ | rfl
    · obtain ⟨z, hz, k1, k2⟩ := mem_narL q
      obtain ⟨x, hx, e1, e2⟩ := h.sub z hz
      cases hg : shGet y.key (shFill k e r l L) with
      | none => rw [hg] at hy2; cases hy2
      | some x' =>
        obtain ⟨m1, m2⟩ := get_mem hg
        refine ⟨x', m1, m2, ?_⟩
        rw [hE] at m1
        rcases List.mem_append.1 m1 with m1 | m1
        · obtain ⟨u, hu, rfl⟩ := List.mem_map.1 m1
          obtain ⟨huL, _⟩ := hold u hu
          rw [k_prI] at m2
          have hux : u = x := key_uniq h.keys huL hx (by rw [m2, e1, k1])
          subst hux
          have hzp : z.ep = u.e.1 := by rw [e2]; rfl
          rw [k2, hzp]
          by_cases q1 : u.e.1 = r ∨ u.e.1 = l
          · rw [prI, if_pos q1]
            by_cases q2 : u.e.1 ∈ shFr L r l
            · rw [if_pos q2, ← e2]; rfl
            · rw [if_neg q2]
              have ht : shT L u.e.1 = true := by
                rw [← Bool.not_eq_false]; intro q3
                exact q2 (shFr_mem.2 ⟨q1, q3⟩)
              have hw : wB u.e.2.2 = false := by
                rw [← Bool.not_eq_true]; intro q3
                rw [h.nowr u huL q3] at ht; cases ht
              rw [nar_no hw, e2]
          · rw [prI, if_neg q1, if_neg (fun q2 => q1 (shFr_mem.1 q2).1), e2]
        · obtain rfl : x' = shNew k e r l L := by simpa using m1
          rw [shNew_k] at m2
          exact absurd m2.symm hne
    · exact ⟨_, hnew, shNew_k k e r l L, rfl⟩
end Go.Proofs.YtllkdnadmmjehaaGreatDoor
namespace Go.Proofs.YtllkdnadmmjehaaGreatDoor
open Go.RowKit
set_option linter.unusedSimpArgs false
set_option linter.unusedVariables false
section
variable {P : Program} {W0 : World} {N : FSz} {e : Env} {A R : List HP} {t : TypeId} {v : Value} {x y : Operand} {l' ys : List Value}
theorem v_idxA {S : World → Prop} {E n c j sz o' b off : Nat} {k : IntKind} {i : Int} {a' : Option Addr} (hu : P.underlying t = some (.slice E)) (hs : ∀ w, (sizeOf E).run P w = .ok sz w) (hx : ev e x = some (.slice a' n c)) (ha : a' = some ⟨b, off, none⟩) (hy : ev e y = some (.int k i))
    (hi : i = (j : Int)) (hj : j < n) (ho : off + j * sz = o') : Val P S N e (.indexAddr t x y) (.pointer (some ⟨b, o', none⟩)) := by
  subst ha; exact v_idx hu hs hx hy hi hj ho
instance (priority := high) ent_nil {A : List HP} : Ent A [] := ⟨fun l _ => ⟨[], l, rfl, List.Perm.refl _⟩⟩
end
end Go.Proofs.YtllkdnadmmjehaaGreatDoor
namespace Go.Proofs.YtllkdnadmmjehaaGreatDoor
open Go.RowKit
set_option linter.unusedSimpArgs false
set_option linter.unusedVariables false
set_option maxRecDepth 20000
def shH (b : Nat) (L : List Ln) : HP := chk (fun C => ∃ a c, C = [pt b (cob [.slice a L.length c, .bool true] 161), osl 163 7 (.slice a L.length c) (L.flatMap lnV)])
section
variable {P : Program} {W0 : World} {R A : List HP} {b : Nat} {L : List Ln} {f : FuncId} {args : List Value} {Post : Value → List HP → Prop}
theorem ent_sh {a : Option Addr} {c n : Nat} {R1 R2 B : List HP} [h1 : Tk pt b A (cob [.slice a n c, .bool true] 161) R1] [h2 : Tk (osl 163 7) (.slice a n c) R1 (L.flatMap lnV) R2] (hn : n = L.length) [k : Ent R2 B] : Ent A (shH b L :: B) := by
  subst hn
  exact (Ent.ofPerm (h1.perm.trans (h2.perm.cons _))).trans ((Ent.cons (Ent.cons k)).trans (ent_chk (R := B) (C := [_, _]) ⟨a, c, rfl⟩))
theorem run_sh {N : FSz} {K : Act → World → Prop} {e : Env} [hk : Tk shH b A L R] (h : ∀ a c, Run W0 N K e (pt b (cob [.slice a L.length c, .bool true] 161) :: osl 163 7 (.slice a L.length c) (L.flatMap lnV) :: R)) : Run W0 N K e A :=
  run_tk (r := shH) (b := b) (run_chk fun C hC => by obtain ⟨a, c, rfl⟩ := hC; exact h a c)
theorem run_shN {N : FSz} {K : Act → World → Prop} {e : Env} [hk : Tk shH b A L R] (h0 : L ≠ []) (h : ∀ g c sp, L.length ≤ c → c ≤ maxLen → (L.flatMap lnV ++ sp).length = c * 7 → Run W0 N K e (pt b (cob [.slice (some ⟨g, 0, none⟩) L.length c, .bool true] 161) :: pt g (cob (L.flatMap lnV ++ sp) 163) :: R)) : Run W0 N K e A :=
  run_sh (b := b) fun a c => run_perm (List.Perm.swap _ _ _) (run_osl (fun h1 h2 => by
      have := flat_len lnV_len L
      rw [h2] at this
      exact absurd (List.eq_nil_of_length_eq_zero (by simp at this; omega)) h0)
    (fun g n cap sp h1 h2 h3 h4 h5 => by
      cases h1
      exact run_perm (List.Perm.swap _ _ _) (h g _ sp h2 h3 h5)))
theorem ent_shN {g c n : Nat} {xs sp : List Value} {R1 R2 B : List HP} [h1 : Tk pt b A (cob [.slice (some ⟨g, 0, none⟩) n c, .bool true] 161) R1] [h2 : Tk pt g R1 (cob (xs ++ sp) 163) R2] (hx : xs = L.flatMap lnV) (hn : n = L.length) (hc : n ≤ c) (hm : c ≤ maxLen) (hl : (xs ++ sp).length = c * 7) [k : Ent R2 B] : Ent A (shH b L :: B) := by
  subst hn
  subst hx
  have e : Ent R1 (osl 163 7 (.slice (some ⟨g, 0, none⟩) L.length c) (L.flatMap lnV) :: B) := ent_osl hc hm (flat_len lnV_len L) hl
  exact (Ent.ofPerm h1.perm).trans ((Ent.cons e).trans (ent_chk (R := B) (C := [_, _]) ⟨_, c, rfl⟩))
theorem cell_shM [hk : Tk shH b A L R] : Cell (OwnP W0 A) b 1 (.bool true) := fun w (hO : Own W0 w A) => by
  obtain ⟨C, ⟨a, c, rfl⟩, hO'⟩ := (hO.tk (r := shH) (b := b)).chk
  have h2 : Cell (OwnP W0 (pt b (cob [.slice a L.length c, .bool true] 161) :: (osl 163 7 (.slice a L.length c) (L.flatMap lnV) :: R))) b 1 (.bool true) := cell_own rfl
  exact h2 w hO'
end
theorem shNew_spec (W0 : World) (R : List HP) : Spec Tryz.prog W0 62 [] R (fun v B => ∃ b, v = .pointer (some ⟨b, 0, none⟩) ∧ B = shH b [] :: R) := by
  refine spec_body Tryz.func62 Tryz.ntmps62 rfl rfl ?_
  refine x_seq (x_region (s_val rfl (v_assign rfl) (x_nil (n_then (x_seq (x_region (s_val rfl (v_build Tryz.underlying161 Tryz.zeroValue161 (sized_cons Tryz.sizeOf159 (sized_cons Tryz.sizeOf4 sized_nil)) (fil_scal rfl Tryz.sizeOf4 rfl rfl (Nat.le_of_ble_eq_true rfl) SetL.eq fil_nil)) ?_)))))))
  refine s_do rfl (d_boxA rfl) ?_
  rintro _ _ ⟨b, rfl, rfl⟩
  refine s_val rfl (v_assign rfl) (x_nil (n_then (x_ret (x_done (.inl rfl) (.cons (r_tmp rfl) .nil) ?_))))
  refine ⟨_, ⟨b, rfl, rfl⟩, ?_⟩
  refine Ent.trans (B := pt b (cob [.slice none 0 0, .bool true] 161) :: osl 163 7 (.slice none 0 0) [] :: R) (Ent.trans (B := pt b (cob [.slice none 0 0, .bool true] 161) :: R) inferInstance (Ent.cons ent_osl_nil)) ?_
  exact ent_sh (L := []) rfl
theorem shNone_spec (W0 : World) (R : List HP) (b : Nat) (L : List Ln) : Spec Tryz.prog W0 89 [.pointer (some ⟨b, 0, none⟩)] (shH b L :: R) (fun v B => v = .bool false ∧ B = shH b L :: R) := by
  refine spec_body Tryz.func89 Tryz.ntmps89 rfl rfl ?_
  refine x_seq (x_region (s_val rfl (v_assign rfl) (x_nil (n_then (x_seq (x_region (s_val rfl (v_move rfl) (s_val rfl (v_eql_ptr_nil Tryz.underlying95 rfl rfl) (s_val rfl (v_move rfl) ?_)))))))))
  refine s_or rfl rfl rfl ?_ ?_
  · intro g1_3
    cases g1_3
  · intro g1_3
    refine s_val rfl (v_move rfl) (s_yes rfl rfl (s_val rfl (v_nilCheck rfl) (s_yes rfl rfl ?_)))
    refine s_val rfl (v_fieldAddr rfl Tryz.underlying161 rfl Tryz.sizeOf4 rfl (by first | exact Nat.zero_add _ | rfl)) ?_
    refine s_yes rfl rfl (s_val rfl (v_load Tryz.isAgg4 rfl cell_shM) ?_)
    refine s_yes rfl rfl (s_val rfl (v_not rfl) (s_val rfl (v_pick_f rfl rfl) (s_val rfl (v_assign rfl) (x_nil (n_then (x_ret (x_done (.inl rfl) (.cons (r_tmp rfl) .nil) ?_)))))))
    exact ⟨_, ⟨rfl, rfl⟩, inferInstance⟩
def ownP (p : Int) : Bool := decide (0 ≤ p ∧ p < 8)
theorem shOwn_spec (W0 : World) (R : List HP) (p : Int) : Spec Tryz.prog W0 146 [.int .i64 p] R (fun v B => v = .bool (ownP p) ∧ B = R) := by
  refine spec_body Tryz.func146 Tryz.ntmps146 rfl rfl ?_
  refine x_seq (x_region (s_val rfl (v_assign rfl) (x_nil (n_then (x_seq (x_region (s_val rfl (v_move rfl) (s_val rfl (v_geq rfl rfl) (s_val rfl (v_move rfl) ?_)))))))))
  refine s_and rfl rfl rfl ?_ ?_
  · intro g1_3
    refine s_val rfl (v_move rfl) (s_yes rfl rfl (s_val rfl (v_lss rfl rfl) (s_val rfl (v_pick_t rfl rfl) (s_val rfl (v_assign rfl) (x_nil (n_then (x_ret (x_done (.inl rfl) (.cons (r_tmp rfl) .nil) ?_))))))))
    refine ⟨_, ⟨?_, rfl⟩, inferInstance⟩
    refine congrArg Value.bool ?_
    rw [Bool.eq_iff_iff, ownP, decide_eq_true_iff]
    first
      | (rw [decide_eq_true_iff]; constructor <;> (intro q; omega))
      | (constructor
         · intro q; first | omega | (cases q)
         · intro q; omega)
  · intro g1_3
    refine s_no rfl rfl rfl rfl (s_val rfl (v_pick_f rfl rfl) (s_val rfl (v_assign rfl) (x_nil (n_then (x_ret (x_done (.inl rfl) (.cons (r_tmp rfl) .nil) ?_))))))
    refine ⟨_, ⟨?_, rfl⟩, inferInstance⟩
    refine congrArg Value.bool ?_
    rw [Bool.eq_iff_iff, ownP, decide_eq_true_iff]
    first
      | (rw [decide_eq_true_iff]; constructor <;> (intro q; omega))
      | (constructor
         · intro q; first | omega | (cases q)
         · intro q; omega)
theorem lnThr_spec (W0 : World) (R : List HP) (g o : Nat) (x : Ln) (hc : Cells (OwnP W0 R) g o (lnV x)) (p : Int) : Spec Tryz.prog W0 95 [.pointer (some ⟨g, o, none⟩), .int .i64 p] R (fun v B => v = .bool (x.thr p) ∧ B = R) := by
  refine spec_body Tryz.func95 Tryz.ntmps95 rfl rfl ?_
  refine x_seq (x_region (s_val rfl (v_assign rfl) (x_nil (n_then (x_seq (x_region (s_val rfl (v_move rfl) (s_val rfl (v_nilCheck rfl) ?_))))))))
  refine s_val rfl (v_fieldAddr rfl Tryz.underlying163 rfl Tryz.sizeOf3 rfl (by first | exact Nat.zero_add _ | rfl)) ?_
  refine s_val rfl (v_load Tryz.isAgg3 rfl (Cells.weak hc 5 _ rfl)) ?_
  refine s_val rfl (v_move rfl) (s_val rfl (v_eql rfl rfl) (s_val rfl (v_move rfl) ?_))
  refine s_or rfl rfl rfl ?_ ?_
  · intro g1_7
    refine s_no rfl rfl rfl rfl (s_no rfl rfl rfl rfl (s_no rfl rfl rfl rfl (s_no rfl rfl rfl rfl (s_no rfl rfl rfl rfl (s_val rfl (v_pick_t rfl rfl) (s_val rfl (v_assign rfl) (x_nil (n_then (x_ret (x_done (.inl rfl) (.cons (r_tmp rfl) .nil) ?_))))))))))
    refine ⟨_, ⟨?_, rfl⟩, inferInstance⟩
    refine congrArg Value.bool ?_
    rw [Bool.eq_iff_iff, thr_iff]
    first
      | (simp; omega)
      | (simp only [beq_iff_eq, true_iff]; omega)
      | simp_all
  · intro g1_7
    refine s_val rfl (v_move rfl) (s_yes rfl rfl (s_val rfl (v_nilCheck rfl) (s_yes rfl rfl ?_)))
    refine s_val rfl (v_fieldAddr rfl Tryz.underlying163 rfl Tryz.sizeOf3 rfl (by first | exact Nat.zero_add _ | rfl)) ?_
    refine s_yes rfl rfl (s_val rfl (v_load Tryz.isAgg3 rfl (Cells.weak hc 6 _ rfl)) ?_)
    refine s_yes rfl rfl (s_val rfl (v_move rfl) (s_yes rfl rfl (s_val rfl (v_eql rfl rfl) (s_val rfl (v_pick_f rfl rfl) (s_val rfl (v_assign rfl) (x_nil (n_then (x_ret (x_done (.inl rfl) (.cons (r_tmp rfl) .nil) ?_)))))))))
    refine ⟨_, ⟨?_, rfl⟩, inferInstance⟩
    refine congrArg Value.bool ?_
    rw [Bool.eq_iff_iff, thr_iff]
    first
      | (simp; omega)
      | (simp only [beq_iff_eq, true_iff]; omega)
      | simp_all
theorem lnNar_spec (W0 : World) (R : List HP) (g o : Nat) (vs : List Value) (r : Int) (hr : i64 r) (hv : vs[o + 4]? = some (.int .i64 r)) : Spec Tryz.prog W0 160 [.pointer (some ⟨g, o, none⟩)] (pt g (cob vs 163) :: R) (fun v B => v = .tuple #[] ∧ B = pt g (cob (vs.set (o + 4) (.int .i64 (noW r))) 163) :: R) := by
  refine spec_body Tryz.func160 Tryz.ntmps160 rfl rfl ?_
  refine x_region (s_val rfl (v_move rfl) (s_val rfl (v_nilCheck rfl) ?_))
  refine s_val rfl (v_fieldAddr rfl Tryz.underlying163 rfl Tryz.sizeOf68 rfl (by first | exact Nat.zero_add _ | rfl)) ?_
  refine s_val rfl (v_fieldAddr rfl Tryz.underlying68 rfl Tryz.sizeOf66 rfl (by first | exact Nat.zero_add _ | rfl)) ?_
  refine s_val rfl (v_fieldAddr rfl Tryz.underlying66 rfl Tryz.sizeOf3 rfl (by first | exact Nat.zero_add _ | rfl)) ?_
  refine s_val rfl (v_load Tryz.isAgg3 rfl (cell_own hv)) ?_
  refine s_val rfl (v_andNot rfl rfl (noW_eq hr : bAndNot .i64 r 2 = noW r)) ?_
  refine s_val rfl (v_nilCheck rfl) ?_
  refine s_val rfl (v_fieldAddr rfl Tryz.underlying163 rfl Tryz.sizeOf68 rfl (by first | exact Nat.zero_add _ | rfl)) ?_
  refine s_val rfl (v_fieldAddr rfl Tryz.underlying68 rfl Tryz.sizeOf66 rfl (by first | exact Nat.zero_add _ | rfl)) ?_
  refine s_val rfl (v_fieldAddr rfl Tryz.underlying66 rfl Tryz.sizeOf3 rfl (by first | exact Nat.zero_add _ | rfl)) ?_
  refine s_do0 (d_store Tryz.sizeOf3 rfl rfl rfl (by have := (List.getElem?_eq_some_iff.1 hv).1; omega) (rfl : vs.set (o + 4) (.int .i64 (if wB r then r - 2 else r)) = vs.set (o + 4) (.int .i64 (noW r)))) ?_
  rintro _ _ rfl
  refine x_nil (x_done (.inr rfl) .nil ?_)
  rw [show noW r = if wB r then r - 2 else r from rfl]
  exact ⟨_, ⟨rfl, rfl⟩, inferInstance⟩
theorem shTable_spec (W0 : World) (R : List HP) (b : Nat) (L : List Ln) (hl : L.length ≤ 1000) (p : Int) : Spec Tryz.prog W0 55 [.pointer (some ⟨b, 0, none⟩), .int .i64 p] (shH b L :: R) (fun v B => v = .bool (shT L p) ∧ B = shH b L :: R) := by
  refine spec_body Tryz.func55 Tryz.ntmps55 rfl rfl ?_
  refine x_seq (x_region (s_val rfl (v_assign rfl) (x_nil (n_then (x_seq (x_seq (x_region (s_val rfl (v_move rfl) (s_do rfl (d_call1 Tryz.call89 rfl (shNone_spec W0 _ b L)) ?_)))))))))
  rintro _ B_ ⟨rfl, hB_⟩
  obtain rfl := hB_.symm
  refine x_nil (n_then ?_)
  refine x_if rfl ?_ ?_
  · intro c1
    exact absurd c1 (by decide)
  · intro c1
    refine x_skip (n_then (x_seq (x_seq ?_)))
    refine run_sh (b := b) fun a c => ?_
    refine x_region (s_val rfl (v_move rfl) (s_val rfl (v_nilCheck rfl) ?_))
    refine s_val rfl (v_fieldAddr rfl Tryz.underlying161 rfl Tryz.sizeOf159 rfl (by first | exact Nat.zero_add _ | rfl)) ?_
    refine s_val rfl (v_load Tryz.isAgg159 rfl (cell_own rfl)) ?_
    refine s_val rfl (v_len_slice Tryz.underlying159 rfl) (s_val rfl (v_move rfl) (x_nil (n_then (x_block ?_))))
    refine x_loop (fun i : Nat => i ≤ L.length ∧ ∀ j (hj : j < L.length), j < i → L[j].thr p = false) (fun i => [(0, .pointer (some ⟨b, 0, none⟩)), (1, .int .i64 p), (12, .int .i64 (L.length : Nat)), (13, .int .i64 i)]) (fun _ => pt b (cob [.slice a L.length c, .bool true] 161) :: osl 163 7 (.slice a L.length c) (L.flatMap lnV) :: R) (fun i => L.length - i) 0 ?_ ?_ ?_ ?_
    · exact ⟨Nat.zero_le _, fun j hj h0 => absurd h0 (Nat.not_lt_zero _)⟩
    · repeat (first | exact sub_nil | refine sub_cons rfl ?_)
    · exact inferInstance
    · intro i ⟨hi, hI⟩
      refine x_seq (x_region (s_val rfl (v_lss rfl rfl) (x_nil (n_then (x_seq ?_)))))
      refine x_if rfl ?_ ?_
      · intro c4
        refine x_skip (n_then (x_seq (x_block (x_seq (x_region (s_val rfl (v_move rfl) (s_val rfl (v_assign rfl) (x_nil (n_then (x_seq ?_))))))))))
        have hi1 : i < L.length := by omega
        refine run_sla (E := 163) (sz := 7) (a := a) (c := c) (n := L.length) lnV L lnV_len (by decide) rfl (fun hs => ?_)
        obtain ⟨g, o, hga, hc⟩ := hs.at_ hi1
        obtain ⟨x, hx⟩ : ∃ x, L[i] = x := ⟨_, rfl⟩
        have hyes : x.thr p = true → shT L p = true := fun q => shT_iff.2 ⟨x, by rw [← hx]; exact List.getElem_mem hi1, q⟩
        have hno : x.thr p = false → ∀ j (hj : j < L.length), j < i + 1 → L[j].thr p = false := fun q j hj hji => by
          rcases Nat.lt_or_ge j i with q2 | q2
          · exact hI j hj q2
          · obtain rfl : j = i := by omega
            rw [hx]; exact q
        rw [hx] at hc
        refine x_region (s_val rfl (v_move rfl) (s_val rfl (v_nilCheck rfl) ?_))
        refine s_val rfl (v_fieldAddr rfl Tryz.underlying161 rfl Tryz.sizeOf159 rfl (by first | exact Nat.zero_add _ | rfl)) ?_
        refine s_val rfl (v_load Tryz.isAgg159 rfl (cell_own rfl)) ?_
        refine s_val rfl (v_move rfl) ?_
        refine s_val rfl (v_idxA Tryz.underlying159 Tryz.sizeOf163 rfl hga rfl rfl hi1 (by first | exact Nat.zero_add _ | rfl)) ?_
        refine s_val rfl (v_move rfl) (s_do rfl (d_call Tryz.call95 rfl (lnThr_spec W0 _ g (o + i * 7) x hc p)) ?_)
        rintro _ B_ ⟨rfl, hB_⟩
        obtain rfl := hB_.symm
        refine x_nil (n_then ?_)
        refine x_if rfl ?_ ?_
        · intro c6
          refine x_seq (x_region (s_val rfl (v_assign rfl) (x_nil (n_then (x_ret (r_block (r_then (r_then (r_block (r_then (x_done (.inl rfl) (.cons (r_tmp rfl) .nil) ?_)))))))))))
          rw [hyes c6]
          exact ⟨_, ⟨rfl, rfl⟩, ent_sh (b := b) rfl⟩
        · intro c6
          refine x_skip (n_block (n_then (x_region ?_)))
          refine s_val rfl (v_add rfl rfl (by first | exact w64 (by omega) | rfl)) ?_
          refine s_val rfl (v_move rfl) (x_nil (n_then ?_))
          refine inv_intro (i + 1) ?_ ?_ ?_ ?_
          · exact ⟨by omega, hno (by simpa using c6)⟩
          · omega
          · repeat (first | exact sub_nil | refine sub_cons rfl ?_)
          · exact inferInstance
      · intro c4
        refine x_exit (e_then (e_then (e_block (n_then (x_seq (x_region (s_val rfl (v_assign rfl) (x_nil (n_then (x_ret (x_done (.inl rfl) (.cons (r_tmp rfl) .nil) ?_)))))))))))
        have ht : shT L p = false := by
          rw [← Bool.not_eq_true, shT_iff]
          rintro ⟨x, hx, q⟩
          obtain ⟨j, hj, rfl⟩ := List.getElem_of_mem hx
          rw [hI j hj (by omega)] at q; cases q
        rw [ht]
        exact ⟨_, ⟨rfl, rfl⟩, ent_sh (b := b) rfl⟩
end Go.Proofs.YtllkdnadmmjehaaGreatDoor
namespace Go.Proofs.YtllkdnadmmjehaaGreatDoor
open Go.RowKit
set_option linter.unusedSimpArgs false
set_option linter.unusedVariables false
set_option maxRecDepth 20000
theorem cells_pre {S : World → Prop} {b off : Nat} {us ws vs : List Value} (h : Cells S b off vs) (e : vs = us ++ ws) : Cells S b off us := fun i v hi => h i v (by rw [e, List.getElem?_append_left (List.getElem?_eq_some_iff.1 hi).1]; exact hi)
structure PLn (W0 : World) (fn : FuncId) (cs : List Value) (C : HP) (p : Ln → Bool) : Prop where
  call : ∀ args w, (callFunc fn args).run Tryz.prog w = .ok (.enter fn args) w
  spec : ∀ x b R, Spec Tryz.prog W0 fn ([] ++ [.pointer (some ⟨b, 0, none⟩)] ++ cs) (pt b (cob (lnV x) 163) :: kH 0 C :: R) (fun v B => v = .bool (p x) ∧ B = pt b (cob (lnV x) 163) :: kH 0 C :: R)
theorem fill1_pl (W0 : World) (bk : Nat) (k : Key) : PLn W0 148 [.pointer (some ⟨bk, 0, none⟩)] (grp [pt bk (cob (keyV k) 64)]) (fun x => decide (x.k = k)) := ⟨Tryz.call148, fun x b R => by
  refine spec_perm (perm1 (r1 := kH) (b1 := 0)) (spec_kgrp ?_)
  simp only [List.cons_append, List.nil_append]
  refine spec_body Tryz.func148 Tryz.ntmps148 rfl rfl ?_
  refine x_seq (x_region (s_val rfl (v_assign rfl) (x_nil (n_then (x_seq ?_)))))
  refine x_draw [(b, 0, _), (bk, 0, _)] 8 mixed rfl (sc_own (sc_own sc_end)) (fun hS => ?_)
  refine d_take 0 rfl rfl (by kernel_rfl) (by kernel_rfl) (by kernel_rfl) rfl hS (v_move rfl) ?_
  refine d_take 1 rfl rfl (by kernel_rfl) (by kernel_rfl) (by kernel_rfl) rfl hS (v_nilCheck rfl) ?_
  refine d_take 2 rfl rfl (by kernel_rfl) (by kernel_rfl) (by kernel_rfl) rfl hS (v_fieldAddr rfl Tryz.underlying163 rfl Tryz.sizeOf68 rfl (by first | exact Nat.zero_add _ | rfl)) ?_
  refine d_take 3 rfl rfl (by kernel_rfl) (by kernel_rfl) (by kernel_rfl) rfl hS (v_fieldAddr rfl Tryz.underlying68 rfl Tryz.sizeOf64 rfl (by first | exact Nat.zero_add _ | rfl)) ?_
  refine d_take 4 rfl rfl (by kernel_rfl) (by kernel_rfl) (by kernel_rfl) rfl hS (v_loadAgg Tryz.isAgg64 Tryz.sizeOf64 rfl (cells_pre (us := keyV x.k) (ws := [.int .i64 x.e.1, .int .i64 x.e.2.1, .int .i64 x.e.2.2, .int .i64 x.rt, .int .i64 x.lf]) (cells_sc (k := 0) rfl) rfl) rfl) ?_
  refine d_take 5 rfl rfl (by kernel_rfl) (by kernel_rfl) (by kernel_rfl) rfl hS (v_loadAgg Tryz.isAgg64 Tryz.sizeOf64 rfl (by first | exact cells_sc (k := 0) rfl | exact cells_sc (k := 1) rfl) rfl) ?_
  refine d_take 6 rfl rfl (by kernel_rfl) (by kernel_rfl) (by kernel_rfl) rfl hS (v_eql_agg Tryz.eqGuardType64 rfl rfl (q_struct Tryz.underlying64 Tryz.stoodInHeld64 (qf_scal rfl Tryz.isAgg3 rfl rfl (q_int Tryz.underlying3) (qf_scal rfl Tryz.isAgg3 rfl rfl (q_int Tryz.underlying3) qf_nil)))) ?_
  refine d_take 7 rfl rfl (by kernel_rfl) (by kernel_rfl) (by kernel_rfl) rfl hS (v_assign rfl) ?_
  refine d_done (by kernel_rfl) ?_; clear hS
  refine n_then (x_ret (x_done (.inl rfl) (.cons (r_tmp rfl) .nil) ?_))
  refine ⟨_, ⟨?_, rfl⟩, inferInstance⟩
  refine congrArg Value.bool ?_
  rw [Bool.eq_iff_iff]; simp [Prod.ext_iff]
  ⟩
theorem wrote1_pl (W0 : World) (bp : Nat) (page : Int) : PLn W0 116 [.pointer (some ⟨bp, 0, none⟩)] (grp [pt bp (cob [.int .i64 page] 3)]) (fun x => x.thr page) := ⟨Tryz.call116, fun x b R => by
  refine spec_perm (perm1 (r1 := kH) (b1 := 0)) (spec_kgrp ?_)
  simp only [List.cons_append, List.nil_append]
  refine spec_body Tryz.func116 Tryz.ntmps116 rfl rfl ?_
  refine x_seq (x_region (s_val rfl (v_assign rfl) (x_nil (n_then (x_seq (x_region (s_val rfl (v_move rfl) (s_val rfl (v_load Tryz.isAgg3 rfl (cell_own rfl)) ?_))))))))
  refine s_do rfl (d_call Tryz.call95 rfl (lnThr_spec W0 _ b 0 x cells_all page)) ?_
  rintro _ B_ ⟨rfl, hB_⟩
  obtain rfl := hB_.symm
  refine s_val rfl (v_assign rfl) (x_nil (n_then (x_ret (x_done (.inl rfl) (.cons (r_tmp rfl) .nil) ?_))))
  exact ⟨_, ⟨rfl, rfl⟩, inferInstance⟩
  ⟩
def goneP (page : Int) (x : Ln) : Bool := x.thr page || decide (x.e.1 = page)
theorem gone1_pl (W0 : World) (bp : Nat) (page : Int) : PLn W0 104 [.pointer (some ⟨bp, 0, none⟩)] (grp [pt bp (cob [.int .i64 page] 3)]) (goneP page) := ⟨Tryz.call104, fun x b R => by
  refine spec_perm (perm1 (r1 := kH) (b1 := 0)) (spec_kgrp ?_)
  simp only [List.cons_append, List.nil_append]
  obtain ⟨q, hq⟩ : ∃ q, x.thr page = q := ⟨_, rfl⟩
  rw [show goneP page x = (q || decide (x.e.1 = page)) by rw [goneP, hq]]
  refine spec_body Tryz.func104 Tryz.ntmps104 rfl rfl ?_
  refine x_seq (x_region (s_val rfl (v_assign rfl) (x_nil (n_then (x_seq ?_)))))
  refine x_draw [(b, 0, _), (bp, 0, _)] 14 mixed rfl (sc_own (sc_own sc_end)) (fun hS => ?_)
  refine d_take 0 rfl rfl (by kernel_rfl) (by kernel_rfl) (by kernel_rfl) rfl hS (v_move rfl) ?_
  refine d_take 1 rfl rfl (by kernel_rfl) (by kernel_rfl) (by kernel_rfl) rfl hS (v_load Tryz.isAgg3 rfl (by first | exact cell_sc0 (k := 0) rfl rfl | exact cell_sc0 (k := 1) rfl rfl)) ?_
  refine d_one 2 (by kernel_rfl) rfl rfl (d_call Tryz.call95 rfl (lnThr_spec W0 _ b 0 x cells_all page)) rfl ?_; clear hS
  rintro _ B_ ⟨rfl, hB_⟩
  obtain rfl := hB_.symm
  rw [hq]
  refine ⟨(sc_own (sc_own sc_end)), fun hS => ?_⟩
  refine d_take 3 rfl rfl (by kernel_rfl) (by kernel_rfl) (by kernel_rfl) rfl hS (v_move rfl) ?_
  refine x_split (t := 7) rfl ?_ ?_
  · intro g1_4
    refine d_skip 4 rfl rfl (by kernel_rfl) (by kernel_rfl) (by kernel_rfl) rfl hS ?_
    refine d_skip 5 rfl rfl (by kernel_rfl) (by kernel_rfl) (by kernel_rfl) rfl hS ?_
    refine d_skip 6 rfl rfl (by kernel_rfl) (by kernel_rfl) (by kernel_rfl) rfl hS ?_
    refine d_skip 7 rfl rfl (by kernel_rfl) (by kernel_rfl) (by kernel_rfl) rfl hS ?_
    refine d_skip 8 rfl rfl (by kernel_rfl) (by kernel_rfl) (by kernel_rfl) rfl hS ?_
    refine d_skip 9 rfl rfl (by kernel_rfl) (by kernel_rfl) (by kernel_rfl) rfl hS ?_
    refine d_skip 10 rfl rfl (by kernel_rfl) (by kernel_rfl) (by kernel_rfl) rfl hS ?_
    refine d_skip 11 rfl rfl (by kernel_rfl) (by kernel_rfl) (by kernel_rfl) rfl hS ?_
    refine d_take 12 rfl rfl (by kernel_rfl) (by kernel_rfl) (by kernel_rfl) rfl hS (v_pick_t rfl rfl) ?_
    refine d_take 13 rfl rfl (by kernel_rfl) (by kernel_rfl) (by kernel_rfl) rfl hS (v_assign rfl) ?_
    refine d_done (by kernel_rfl) ?_; clear hS
    refine n_then (x_ret (x_done (.inl rfl) (.cons (r_tmp rfl) .nil) ?_))
    refine ⟨_, ⟨?_, rfl⟩, inferInstance⟩
    refine congrArg Value.bool ?_
    rw [Bool.eq_iff_iff]
    simp_all
  · intro g1_4
    refine d_take 4 rfl rfl (by kernel_rfl) (by kernel_rfl) (by kernel_rfl) rfl hS (v_move rfl) ?_
    refine d_take 5 rfl rfl (by kernel_rfl) (by kernel_rfl) (by kernel_rfl) rfl hS (v_nilCheck rfl) ?_
    refine d_take 6 rfl rfl (by kernel_rfl) (by kernel_rfl) (by kernel_rfl) rfl hS (v_fieldAddr rfl Tryz.underlying163 rfl Tryz.sizeOf68 rfl (by first | exact Nat.zero_add _ | rfl)) ?_
    refine d_take 7 rfl rfl (by kernel_rfl) (by kernel_rfl) (by kernel_rfl) rfl hS (v_fieldAddr rfl Tryz.underlying68 rfl Tryz.sizeOf66 rfl (by first | exact Nat.zero_add _ | rfl)) ?_
    refine d_take 8 rfl rfl (by kernel_rfl) (by kernel_rfl) (by kernel_rfl) rfl hS (v_fieldAddr rfl Tryz.underlying66 rfl Tryz.sizeOf3 rfl (by first | exact Nat.zero_add _ | rfl)) ?_
    refine d_take 9 rfl rfl (by kernel_rfl) (by kernel_rfl) (by kernel_rfl) rfl hS (v_load Tryz.isAgg3 rfl (by first | exact cell_sc0 (k := 0) rfl rfl | exact cell_sc0 (k := 1) rfl rfl)) ?_
    refine d_take 10 rfl rfl (by kernel_rfl) (by kernel_rfl) (by kernel_rfl) rfl hS (v_load Tryz.isAgg3 rfl (by first | exact cell_sc0 (k := 0) rfl rfl | exact cell_sc0 (k := 1) rfl rfl)) ?_
    refine d_take 11 rfl rfl (by kernel_rfl) (by kernel_rfl) (by kernel_rfl) rfl hS (v_eql rfl rfl) ?_
    refine d_take 12 rfl rfl (by kernel_rfl) (by kernel_rfl) (by kernel_rfl) rfl hS (v_pick_f rfl rfl) ?_
    refine d_take 13 rfl rfl (by kernel_rfl) (by kernel_rfl) (by kernel_rfl) rfl hS (v_assign rfl) ?_
    refine d_done (by kernel_rfl) ?_; clear hS
    refine n_then (x_ret (x_done (.inl rfl) (.cons (r_tmp rfl) .nil) ?_))
    refine ⟨_, ⟨?_, rfl⟩, inferInstance⟩
    refine congrArg Value.bool ?_
    rw [Bool.eq_iff_iff]
    simp_all
  ⟩
theorem flush1_pl (W0 : World) : PLn W0 107 [] (grp []) (fun _ => true) := ⟨Tryz.call107, fun x b R => by
  refine spec_body Tryz.func107 Tryz.ntmps107 rfl rfl ?_
  refine x_seq (x_region (s_val rfl (v_assign rfl) (x_nil (n_then (x_seq (x_region (s_val rfl (v_assign rfl) (x_nil (n_then (x_ret (x_done (.inl rfl) (.cons (r_tmp rfl) .nil) ?_)))))))))))
  exact ⟨_, ⟨rfl, rfl⟩, inferInstance⟩
  ⟩
theorem take_yes {α : Type} {p : α → Bool} {l : List α} {i : Nat} {x : α} (hi : i < l.length) (hx : l[i] = x) (h : p x = true) : (l.take (i + 1)).filter p = (l.take i).filter p ++ [x] := by
  rw [List.take_succ_eq_append_getElem hi, List.filter_append, hx, List.filter_cons_of_pos h]; rfl
theorem take_no {α : Type} {p : α → Bool} {l : List α} {i : Nat} {x : α} (hi : i < l.length) (hx : l[i] = x) (h : ¬ p x = true) : (l.take (i + 1)).filter p = (l.take i).filter p := by
  rw [List.take_succ_eq_append_getElem hi, List.filter_append, hx, List.filter_cons_of_neg h]; simp
theorem take_len {α : Type} {p : α → Bool} {l : List α} {i : Nat} : ((l.take i).filter p).length ≤ i :=
  Nat.le_trans (List.length_filter_le _ _) (by rw [List.length_take]; omega)
@[reducible] def kyV (x : Ln) : List Value := keyV x.k
theorem shDrop_spec (W0 : World) (R : List HP) (b : Nat) (L : List Ln) (hl : L.length ≤ 1000) (fn : FuncId) (cs : List Value) (C : HP) (p : Ln → Bool) (hp : PLn W0 fn cs C p) :
    Spec Tryz.prog W0 103 [.pointer (some ⟨b, 0, none⟩), .func (.func fn) #[] cs.toArray] (shH b L :: kH 0 C :: R)
      (fun v B => ∃ a c, v = .slice a (L.filter p).length c ∧ B = osl 64 2 (.slice a (L.filter p).length c) ((L.filter p).flatMap kyV) :: shH b (L.filter fun x => !p x) :: kH 0 C :: R) := by
  obtain ⟨n, hn⟩ : ∃ n : Ln → Bool, (fun x => !p x) = n := ⟨_, rfl⟩
  have hnx : ∀ x, n x = !p x := fun x => by rw [← hn]
  rw [hn]
  refine spec_body Tryz.func103 Tryz.ntmps103 rfl rfl ?_
  refine x_seq (x_region (s_val rfl (v_assign rfl) (x_nil (n_then (x_seq (x_region (s_val rfl (v_assign rfl) (x_nil (n_then (x_seq (x_region (s_val rfl (v_assign rfl) (x_nil (n_then (x_seq (x_seq ?_))))))))))))))))
  refine run_sh (b := b) fun a c => ?_
  refine x_region (s_val rfl (v_move rfl) (s_val rfl (v_nilCheck rfl) ?_))
  refine s_val rfl (v_fieldAddr rfl Tryz.underlying161 rfl Tryz.sizeOf159 rfl (by first | exact Nat.zero_add _ | rfl)) ?_
  refine s_val rfl (v_load Tryz.isAgg159 rfl (cell_own rfl)) ?_
  refine s_val rfl (v_len_slice Tryz.underlying159 rfl) (s_val rfl (v_move rfl) (x_nil (n_then (x_block ?_))))
  refine x_loop (fun X : Nat × (Option Addr × Nat) × Option Addr × Nat => X.1 ≤ L.length) (fun X => [(0, .pointer (some ⟨b, 0, none⟩)), (1, .func (.func fn) #[] cs.toArray), (5, .slice X.2.1.1 ((L.take X.1).filter p).length X.2.1.2), (6, .slice X.2.2.1 ((L.take X.1).filter n).length X.2.2.2), (13, .int .i64 (L.length : Nat)), (14, .int .i64 X.1)]) (fun X => osl 64 2 (.slice X.2.1.1 ((L.take X.1).filter p).length X.2.1.2) (((L.take X.1).filter p).flatMap kyV) :: osl 163 7 (.slice X.2.2.1 ((L.take X.1).filter n).length X.2.2.2) (((L.take X.1).filter n).flatMap lnV) :: pt b (cob [.slice a L.length c, .bool true] 161) :: osl 163 7 (.slice a L.length c) (L.flatMap lnV) :: kH 0 C :: R) (fun X => L.length - X.1) (0, (none, 0), none, 0) ?_ ?_ ?_ ?_
  · exact Nat.zero_le _
  · repeat (first | exact sub_nil | refine sub_cons rfl ?_)
  · show Ent _ (osl 64 2 (.slice none 0 0) [] :: osl 163 7 (.slice none 0 0) [] :: pt b (cob [.slice a L.length c, .bool true] 161) :: osl 163 7 (.slice a L.length c) (L.flatMap lnV) :: kH 0 C :: R)
    exact ent_osl_nil (k := ent_osl_nil)
  · intro ⟨i, ⟨a1, c1⟩, a2, c2⟩ hi
    dsimp only at hi ⊢
    have hlp := take_len (p := p) (l := L) (i := i)
    have hln := take_len (p := n) (l := L) (i := i)
    refine x_seq (x_region (s_val rfl (v_lss rfl rfl) (x_nil (n_then (x_seq ?_)))))
    refine x_if rfl ?_ ?_
    · intro c4
      refine x_skip (n_then ?_)
      refine x_cut (fun X : (Option Addr × Nat) × Option Addr × Nat => True) (fun X => [(0, .pointer (some ⟨b, 0, none⟩)), (1, .func (.func fn) #[] cs.toArray), (5, .slice X.1.1 ((L.take (i + 1)).filter p).length X.1.2), (6, .slice X.2.1 ((L.take (i + 1)).filter n).length X.2.2), (13, .int .i64 (L.length : Nat)), (14, .int .i64 i)]) (fun X => osl 64 2 (.slice X.1.1 ((L.take (i + 1)).filter p).length X.1.2) (((L.take (i + 1)).filter p).flatMap kyV) :: osl 163 7 (.slice X.2.1 ((L.take (i + 1)).filter n).length X.2.2) (((L.take (i + 1)).filter n).flatMap lnV) :: pt b (cob [.slice a L.length c, .bool true] 161) :: osl 163 7 (.slice a L.length c) (L.flatMap lnV) :: kH 0 C :: R) ?_ ?_
      · skip
        refine x_block (x_seq (x_region (s_val rfl (v_move rfl) (s_val rfl (v_assign rfl) (x_nil (n_then (x_seq ?_)))))))
        have hi1 : i < L.length := by omega
        refine run_sla (E := 163) (sz := 7) (a := a) (c := c) (n := L.length) lnV L lnV_len (by decide) rfl (fun hs => ?_)
        obtain ⟨g, o, hga, hc⟩ := hs.at_ hi1
        obtain ⟨x, hx⟩ : ∃ x, L[i] = x := ⟨_, rfl⟩
        rw [hx] at hc
        refine x_region (s_val rfl (v_move rfl) (s_val rfl (v_nilCheck rfl) ?_))
        refine s_val rfl (v_fieldAddr rfl Tryz.underlying161 rfl Tryz.sizeOf159 rfl (by first | exact Nat.zero_add _ | rfl)) ?_
        refine s_val rfl (v_load Tryz.isAgg159 rfl (cell_own rfl)) ?_
        refine s_val rfl (v_move rfl) ?_
        refine s_val rfl (v_idxA Tryz.underlying159 Tryz.sizeOf163 rfl hga rfl rfl hi1 (by first | exact Nat.zero_add _ | rfl)) ?_
        refine s_val rfl (v_loadAgg Tryz.isAgg163 Tryz.sizeOf163 rfl hc.weak rfl) ?_
        refine s_do rfl (d_allocA Tryz.zeroValue163) ?_
        rintro _ _ ⟨bx, rfl, rfl⟩
        refine s_do0 (d_storeAll Tryz.sizeOf163 rfl rfl rfl rfl rfl) ?_
        rintro _ _ rfl
        refine x_nil (n_then (x_seq (x_seq (x_region (s_val rfl (v_move rfl) (s_do rfl (d_callv2 (us := []) (cs := cs) rfl hp.call rfl (hp.spec x bx _)) ?_))))))
        rintro _ B_ ⟨rfl, hB_⟩
        obtain rfl := hB_.symm
        refine x_nil (n_then ?_)
        refine x_if rfl ?_ ?_
        · intro c7
          have e1 := take_yes (p := p) hi1 hx c7
          have e2 := take_no (p := n) hi1 hx (by rw [hnx, c7]; decide)
          refine x_seq (x_region (s_val rfl (v_move rfl) ?_))
          refine s_val rfl (v_fieldAddr rfl Tryz.underlying163 rfl Tryz.sizeOf68 rfl (by first | exact Nat.zero_add _ | rfl)) ?_
          refine s_val rfl (v_fieldAddr rfl Tryz.underlying68 rfl Tryz.sizeOf64 rfl (by first | exact Nat.zero_add _ | rfl)) ?_
          refine s_val rfl (v_loadPart Tryz.isAgg64 Tryz.sizeOf64 rfl TakeL.eq rfl) ?_
          refine s_do rfl (d_sliceAgg Tryz.underlying138 Tryz.sizeOf64 Tryz.zeroValue64 rfl (elsK_cons rfl rfl elsK_nil) rfl (by decide) (by decide) (by decide)) ?_
          rintro _ _ ⟨bb, rfl, rfl⟩
          rw [show ([keyV x.k] : List (List Value)).flatten = keyV x.k from List.append_nil _]
          refine s_do rfl (d_append (sz := 2) (by_ := 16) (info := Tryz.t64) Tryz.underlying138 (by kernel_rfl) rfl rfl rfl rfl (by decide) rfl rfl cells_all rfl rfl (by simp only [maxLen]; omega) (by omega)) ?_
          rintro _ _ ⟨a3, c3, rfl, rfl⟩
          refine s_val rfl (v_assign rfl) (x_nil (n_then (x_exit (e_then (e_block (n_then ?_))))))
          refine mid_intro ((a3, c3), a2, c2) ?_ ?_ ?_
          · trivial
          · rw [e1, e2, List.length_append]
            repeat (first | exact sub_nil | refine sub_cons rfl ?_)
          · dsimp only
            rw [e1, e2, List.length_append, List.length_singleton, List.flatMap_append, List.flatMap_singleton]
            exact inferInstance
        · intro c7
          have e1 := take_no (p := p) hi1 hx c7
          have e2 := take_yes (p := n) hi1 hx (by rw [hnx]; simpa using c7)
          refine x_skip (n_then (x_region (s_val rfl (v_move rfl) (s_val rfl (v_loadAll Tryz.isAgg163 Tryz.sizeOf163 rfl rfl) ?_))))
          refine s_do rfl (d_sliceAgg Tryz.underlying159 Tryz.sizeOf163 Tryz.zeroValue163 rfl (elsK_cons rfl rfl elsK_nil) rfl (by decide) (by decide) (by decide)) ?_
          rintro _ _ ⟨bb, rfl, rfl⟩
          rw [show ([lnV x] : List (List Value)).flatten = lnV x from List.append_nil _]
          refine s_do rfl (d_append (sz := 7) (by_ := 56) (info := Tryz.t163) Tryz.underlying159 (by kernel_rfl) rfl rfl rfl rfl (by decide) rfl rfl cells_all rfl (by first | exact lnV_one x | rfl) (by simp only [maxLen]; omega) (by omega)) ?_
          rintro _ _ ⟨a3, c3, rfl, rfl⟩
          refine s_val rfl (v_assign rfl) (x_nil (n_block (n_then ?_)))
          refine mid_intro ((a1, c1), a3, c3) ?_ ?_ ?_
          · trivial
          · rw [e1, e2, List.length_append]
            repeat (first | exact sub_nil | refine sub_cons rfl ?_)
          · dsimp only
            rw [e1, e2, List.length_append, List.length_singleton, List.flatMap_append, List.flatMap_singleton]
            exact inferInstance
      · intro ⟨⟨a4, c4⟩, a5, c5⟩ _
        refine x_region ?_
        refine s_val rfl (v_add rfl rfl (by first | exact w64 (by omega) | rfl)) ?_
        refine s_val rfl (v_move rfl) (x_nil (n_then ?_))
        refine inv_intro (i + 1, (a4, c4), a5, c5) ?_ ?_ ?_ ?_
        · omega
        · omega
        · repeat (first | exact sub_nil | refine sub_cons rfl ?_)
        · exact inferInstance
    · intro c4
      refine x_exit (e_then (e_then (e_block (n_then (x_seq (x_region (s_val rfl (v_move rfl) (s_val rfl (v_move rfl) (s_val rfl (v_nilCheck rfl) ?_)))))))))
      refine s_val rfl (v_fieldAddr rfl Tryz.underlying161 rfl Tryz.sizeOf159 rfl (by first | exact Nat.zero_add _ | rfl)) ?_
      refine s_do0 (d_store Tryz.sizeOf159 rfl rfl rfl (Nat.le_of_ble_eq_true rfl) SetL.eq) ?_
      rintro _ _ rfl
      refine x_nil (n_then (x_seq (x_region (s_val rfl (v_move rfl) (s_val rfl (v_assign rfl) (x_nil (n_then (x_ret (x_done (.inl rfl) (.cons (r_tmp rfl) .nil) ?_)))))))))
      obtain rfl : i = L.length := by omega
      rw [List.take_length]
      exact ⟨_, ⟨a1, c1, rfl, rfl⟩, Ent.trans (B := osl 64 2 (.slice a1 (L.filter p).length c1) ((L.filter p).flatMap kyV) :: pt b (cob [.slice a2 (L.filter n).length c2, .bool true] 161) :: osl 163 7 (.slice a2 (L.filter n).length c2) ((L.filter n).flatMap lnV) :: kH 0 C :: R) inferInstance (Ent.cons (ent_sh (b := b) rfl))⟩
end Go.Proofs.YtllkdnadmmjehaaGreatDoor
namespace Go.Proofs.YtllkdnadmmjehaaGreatDoor
open Go.RowKit
set_option linter.unusedSimpArgs false
set_option linter.unusedVariables false
set_option maxRecDepth 20000
theorem values_spec (W0 : World) (R : List HP) (a : Option Addr) (n c : Nat) :
    Spec Tryz.prog W0 92 [.slice a n c] R (fun v B => ∃ bs, v = .func (.func 132) #[] #[.pointer (some ⟨bs, 0, none⟩)] ∧ B = pt bs (cob [.slice a n c] 164) :: R) := by
  refine spec_body Tryz.func92 Tryz.ntmps92 rfl rfl ?_
  refine x_seq (x_region (s_do rfl (d_box rfl rfl) ?_))
  rintro _ _ ⟨b1, rfl, rfl⟩
  refine s_val rfl (v_assign rfl) (x_nil (n_then (x_seq (x_region (s_val rfl (v_mkFunc rfl rfl) ?_)))))
  refine s_val rfl (v_assign rfl) (x_nil (n_then (x_ret (x_done (.inl rfl) (.cons (r_tmp rfl) .nil) ?_))))
  exact ⟨_, ⟨b1, rfl, rfl⟩, inferInstance⟩
theorem vals1_spec (W0 : World) (bs L c : Nat) (a : Option Addr) (its : List It) (hN : its.length < 1000) (C : Nat → List HP)
    (hr : ∀ i R, i < its.length → Rounds Tryz.prog W0 L [.agg (itemV (its.getD i default)).toArray] (C i ++ R) (fun v B => v = .bool true ∧ B = C (i + 1) ++ R)) :
    Spec Tryz.prog W0 132 [.func (.yield L) #[] #[], .pointer (some ⟨bs, 0, none⟩)] (pt bs (cob [.slice a its.length c] 164) :: osl 167 6 (.slice a its.length c) (its.flatMap itemV) :: C 0)
      (fun v B => v = .tuple #[] ∧ B = pt bs (cob [.slice a its.length c] 164) :: osl 167 6 (.slice a its.length c) (its.flatMap itemV) :: C its.length) := by
  refine spec_body Tryz.func132 Tryz.ntmps132 rfl rfl ?_
  refine x_seq (x_region (s_val rfl (v_load Tryz.isAgg164 rfl (cell_own rfl)) ?_))
  refine s_val rfl (v_len_slice Tryz.underlying164 rfl) (s_val rfl (v_move rfl) (x_nil (n_then (x_block ?_))))
  refine x_loop (fun i : Nat => i ≤ its.length) (fun i => [(0, .func (.yield L) #[] #[]), (5, .slice a its.length c), (6, .int .i64 (its.length : Nat)), (7, .int .i64 i)]) (fun i => pt bs (cob [.slice a its.length c] 164) :: osl 167 6 (.slice a its.length c) (its.flatMap itemV) :: C i) (fun i => its.length - i) 0 ?_ ?_ ?_ ?_
  · exact Nat.zero_le _
  · repeat (first | exact sub_nil | refine sub_cons rfl ?_)
  · exact inferInstance
  · intro i hi
    refine x_seq (x_region (s_val rfl (v_lss rfl rfl) (x_nil (n_then (x_seq ?_)))))
    refine x_if rfl ?_ ?_
    · intro c1
      have hi1 : i < its.length := by omega
      refine run_sla (E := 167) (sz := 6) (a := a) (n := its.length) (c := c) itemV its itemV_len (by decide) rfl (fun hs => ?_)
      obtain ⟨g, o, rfl, hc⟩ := hs.at_ hi1
      have hgi : its.getD i default = its[i] := by simp [List.getD, hi1]
      refine x_skip (n_then (x_seq (x_block (x_seq (x_region ?_)))))
      refine s_val rfl (v_idx Tryz.underlying164 Tryz.sizeOf167 rfl rfl rfl hi1 (by first | exact Nat.zero_add _ | rfl)) ?_
      refine s_val rfl (v_loadAgg Tryz.isAgg167 Tryz.sizeOf167 rfl hc rfl) ?_
      refine s_do rfl (d_allocA Tryz.zeroValue167) ?_
      rintro _ _ ⟨bx, rfl, rfl⟩
      refine s_do0 (d_storeAll Tryz.sizeOf167 rfl rfl rfl rfl rfl) ?_
      rintro _ _ rfl
      refine x_nil (n_then (x_seq (x_region (s_val rfl (v_move rfl) (s_val rfl (v_loadAll Tryz.isAgg167 Tryz.sizeOf167 rfl rfl) ?_)))))
      refine s_yield rfl rfl rfl (rounds_perm (List.perm_append_comm (l₁ := [_, _, _])) (hgi ▸ hr i [_, _, _] hi1)) ?_
      rintro _ B_ ⟨rfl, hB_⟩
      obtain rfl := hB_.symm
      refine run_perm List.perm_append_comm ?_
      simp only [List.cons_append, List.nil_append]
      refine s_val rfl (v_not rfl) (x_nil (n_then ?_))
      refine x_if rfl ?_ ?_
      · intro c3
        exact absurd rfl c3
      · intro c3
        refine x_skip (n_block (n_then (x_region ?_)))
        refine s_val rfl (v_add rfl rfl (by first | exact w64 (by omega) | rfl)) ?_
        refine s_val rfl (v_move rfl) (x_nil (n_then ?_))
        refine inv_intro (i + 1) ?_ ?_ ?_ ?_
        · omega
        · omega
        · repeat (first | exact sub_nil | refine sub_cons rfl ?_)
        · exact inferInstance
    · intro c1
      refine x_exit (e_then (e_then (e_block (x_done (.inr rfl) .nil ?_))))
      obtain rfl : i = its.length := by omega
      exact ⟨_, ⟨rfl, rfl⟩, inferInstance⟩
theorem vals_range {W0 : World} {A : List HP} {e : Env} {n' L D bs c : Nat} {a : Option Addr} {ps : Array Tmp} {asg body : Code} {Go Stop : List HP → Prop} (its : List It) (hN : its.length < 1000) (C : Nat → List HP)
    (hp : A.Perm (pt bs (cob [.slice a its.length c] 164) :: osl 167 6 (.slice a its.length c) (its.flatMap itemV) :: C 0))
    (hgo : Go (pt bs (cob [.slice a its.length c] 164) :: osl 167 6 (.slice a its.length c) (its.flatMap itemV) :: C its.length))
    (hr : ∀ i R, i < its.length → Rounds Tryz.prog W0 L [.agg (itemV (its.getD i default)).toArray] (recH L ⟨e, n', ps, asg, body, .ready, none, D⟩ :: pt D (.deferred (some [])) :: (C i ++ R))
      (fun v B => v = .bool true ∧ B = recH L ⟨e, n', ps, asg, body, .ready, none, D⟩ :: pt D (.deferred (some [])) :: (C (i + 1) ++ R))) :
    Spec Tryz.prog W0 132 (.func (.yield L) #[] #[] :: [.pointer (some ⟨bs, 0, none⟩)]) (recH L ⟨e, n', ps, asg, body, .ready, none, D⟩ :: pt D (.deferred (some [])) :: A)
      (fun _ B => (∃ C, B = recH L ⟨e, n', ps, asg, body, .ready, none, D⟩ :: pt D (.deferred (some [])) :: C ∧ Go C) ∨ (∃ C, B = recH L ⟨e, n', ps, asg, body, .done, some .ret, D⟩ :: pt D (.deferred (some [])) :: C ∧ Stop C)) := by
  have sw : ∀ (x y p q : HP) (Z : List HP), (x :: y :: p :: q :: Z).Perm (p :: q :: x :: y :: Z) := fun x y p q Z =>
    (((List.Perm.swap _ _ _).trans ((List.Perm.swap _ _ _).cons _)).cons _).trans ((List.Perm.swap _ _ _).trans ((List.Perm.swap _ _ _).cons _))
  refine spec_perm (((hp.cons _).cons _).trans (sw _ _ _ _ _)) (spec_post (vals1_spec W0 bs L c a its hN (fun i => recH L ⟨e, n', ps, asg, body, .ready, none, D⟩ :: pt D (.deferred (some [])) :: C i) (fun i R hi => hr i R hi)) ?_)
  rintro v B ⟨_, rfl⟩
  exact ⟨_, .inl ⟨_, rfl, hgo⟩, Ent.ofPerm (sw _ _ _ _ _)⟩
def itH (b : Nat) (l : List It) : HP := chk (fun C => ∃ a c, C = [pt b (cob [.slice a l.length c] 164), osl 167 6 (.slice a l.length c) (l.flatMap itemV)])
section
variable {W0 : World} {N : FSz} {K : Act → World → Prop} {e : Env} {A R R1 R2 : List HP} {b n c : Nat} {l : List It} {a : Option Addr} {ys : List Value}
theorem run_itH [hk : Tk itH b A l R] (h : ∀ a c, Run W0 N K e (pt b (cob [.slice a l.length c] 164) :: osl 167 6 (.slice a l.length c) (l.flatMap itemV) :: R)) : Run W0 N K e A :=
  run_tk (r := itH) (b := b) (run_chk fun C hC => by obtain ⟨a, c, rfl⟩ := hC; exact h a c)
theorem run_inItH (l : List It) [h1 : Tk pt b A (cob [.slice a n c] 164) R1] [h2 : Tk (osl 167 6) (.slice a n c) R1 ys R] (hn : n = l.length) (hy : ys = l.flatMap itemV) (k : Run W0 N K e (itH b l :: R)) : Run W0 N K e A := by
  subst hn; subst hy
  exact run_ent ((Ent.ofPerm (h1.perm.trans (h2.perm.cons _))).trans (ent_chk (R := R) (C := [_, _]) ⟨a, c, rfl⟩)) k
theorem run_newItH [h1 : Tk pt b A (cob [.slice none 0 0] 164) R] (k : Run W0 N K e (itH b [] :: R)) : Run W0 N K e A :=
  run_ent ((Ent.ofPerm h1.perm).trans ((Ent.cons (ent_osl_nil (E := 167) (sz := 6) (B := R))).trans (ent_chk (R := R) (C := [pt b (cob [.slice none 0 0] 164), osl 167 6 (.slice none 0 0) []]) ⟨none, 0, rfl⟩))) k
end
theorem appendSeq_spec (W0 : World) (R : List HP) (bs c : Nat) (a : Option Addr) (its : List It) (hN : its.length < 900) :
    Spec Tryz.prog W0 153 [.slice none 0 0, .func (.func 132) #[] #[.pointer (some ⟨bs, 0, none⟩)]]
      (pt bs (cob [.slice a its.length c] 164) :: osl 167 6 (.slice a its.length c) (its.flatMap itemV) :: R)
      (fun v B => ∃ a' c', v = .slice a' its.length c' ∧ B = osl 167 6 (.slice a' its.length c') (its.flatMap itemV) :: osl 167 6 (.slice a its.length c) (its.flatMap itemV) :: R) := by
  refine spec_body Tryz.func153 Tryz.ntmps153 rfl rfl ?_
  refine x_seq (x_region (s_do rfl (d_box rfl rfl) ?_))
  rintro _ _ ⟨b1, rfl, rfl⟩
  refine s_val rfl (v_assign rfl) (x_nil (n_then (x_seq (x_seq (run_newItH (b := b1) ?_)))))
  refine x_region (s_val rfl (v_move rfl) (x_nil (n_then (x_block ?_))))
  refine x_rangeFunc (fun C => C = pt bs (cob [.slice a its.length c] 164) :: osl 167 6 (.slice a its.length c) (its.flatMap itemV) :: itH b1 its :: R) (fun C => False) rfl Tryz.call132 ?_ ?_ ?_
  · intro L D
    refine vals_range its (by omega) (fun i => itH b1 (its.take i) :: R) (by rw [List.take_zero]; exact perm3 (r1 := pt) (b1 := bs) (r2 := osl 167 6) (b2 := .slice a its.length c) (r3 := itH) (b3 := b1)) (by rw [List.take_of_length_le (Nat.le_refl _)]) ?_
    intro i R' hi
    simp only [List.cons_append, List.nil_append]
    have htk : its.take (i + 1) = its.take i ++ [its.getD i default] := by rw [List.take_succ_eq_append_getElem hi]; simp [List.getD, hi]
    have htl : (its.take i).length = i := by rw [List.length_take]; omega
    refine rounds_intro rfl rfl ?_
    refine x_region (s_do rfl (d_allocA Tryz.zeroValue167) ?_)
    rintro _ _ ⟨bd, rfl, rfl⟩
    refine s_do0 (d_storeAll Tryz.sizeOf167 rfl rfl rfl rfl rfl) ?_
    rintro _ _ rfl
    refine x_nil (n_begin rfl ?_)
    refine x_block ?_
    refine run_itH (b := b1) fun a2 c2 => ?_
    refine x_region (s_val rfl (v_load Tryz.isAgg164 rfl (cell_own rfl)) ?_)
    refine s_val rfl (v_loadAll Tryz.isAgg167 Tryz.sizeOf167 rfl rfl) ?_
    refine s_do rfl (d_sliceAgg Tryz.underlying164 Tryz.sizeOf167 Tryz.zeroValue167 rfl (elsK_cons rfl rfl elsK_nil) rfl (by decide) (by decide) (by decide)) ?_
    rintro _ _ ⟨b3, rfl, rfl⟩
    refine s_do rfl (d_append (sz := 6) (by_ := 48) (info := Tryz.t167) Tryz.underlying164 (by kernel_rfl) rfl rfl rfl rfl (by decide) rfl rfl cells_all rfl rfl (by simp only [maxLen]; omega) (by omega)) ?_
    rintro _ _ ⟨a1, c1, rfl, rfl⟩
    refine s_do0 (d_store Tryz.sizeOf164 rfl rfl rfl (Nat.le_of_ble_eq_true rfl) SetL.eq) ?_
    rintro _ _ rfl
    refine x_nil (n_block ?_)
    refine run_inItH (b := b1) (its.take (i + 1)) (by rw [htk]; simp) (by rw [htk]; simp) ?_
    refine r_go ?_
    exact ⟨_, ⟨rfl, rfl⟩, inferInstance⟩
  · intro D C hC
    subst hC
    refine n_block (n_then (x_seq ?_))
    refine run_itH (b := b1) fun a2 c2 => ?_
    refine x_region (s_val rfl (v_load Tryz.isAgg164 rfl (cell_own rfl)) ?_)
    refine s_val rfl (v_assign rfl) (x_nil (n_then (x_ret (x_doneM (.inl rfl) (.cons (r_tmp rfl) .nil) ?_))))
    exact ⟨_, ⟨a2, c2, rfl, rfl⟩, inferInstance⟩
  · intro D C hC
    exact hC.elim
theorem collect_spec (W0 : World) (R : List HP) (bs c : Nat) (a : Option Addr) (its : List It) (hN : its.length < 900) :
    Spec Tryz.prog W0 130 [.func (.func 132) #[] #[.pointer (some ⟨bs, 0, none⟩)]]
      (pt bs (cob [.slice a its.length c] 164) :: osl 167 6 (.slice a its.length c) (its.flatMap itemV) :: R)
      (fun v B => ∃ a' c', v = .slice a' its.length c' ∧ B = osl 167 6 (.slice a' its.length c') (its.flatMap itemV) :: osl 167 6 (.slice a its.length c) (its.flatMap itemV) :: R) := by
  refine spec_body Tryz.func130 Tryz.ntmps130 rfl rfl ?_
  refine x_seq (x_region (s_val rfl (v_assign rfl) (x_nil (n_then (x_seq (x_region (s_val rfl (v_move rfl) (s_do rfl (d_call2 Tryz.call153 rfl (appendSeq_spec W0 _ bs c a its hN)) ?_))))))))
  rintro _ B_ ⟨a2, c2, rfl, hB_⟩
  obtain rfl := hB_.symm
  refine s_val rfl (v_assign rfl) (x_nil (n_then (x_ret (x_done (.inl rfl) (.cons (r_tmp rfl) .nil) ?_))))
  exact ⟨_, ⟨a2, c2, rfl, rfl⟩, inferInstance⟩
theorem nan_spec (W0 : World) (R : List HP) (x : Int) : Spec Tryz.prog W0 133 [.int .i64 x] R (fun v B => v = .bool false ∧ B = R) := by
  refine spec_body Tryz.func133 Tryz.ntmps133 rfl rfl ?_
  refine x_seq (x_region (s_val rfl (v_assign rfl) (x_nil (n_then (x_seq (x_region (s_val rfl (v_move rfl) (s_val rfl (v_move rfl) (s_val rfl (v_neq rfl rfl) (s_val rfl (v_assign rfl) (x_nil (n_then (x_ret (x_done (.inl rfl) (.cons (r_tmp rfl) .nil) ?_))))))))))))))
  refine ⟨_, ⟨?_, rfl⟩, inferInstance⟩
  simp [pack]
def cmpI (x y : Int) : Int := if x < y then -1 else if x > y then 1 else 0
theorem cmp_spec (W0 : World) (R : List HP) (x y : Int) : Spec Tryz.prog W0 94 [.int .i64 x, .int .i64 y] R (fun v B => v = .int .i64 (cmpI x y) ∧ B = R) := by
  refine spec_body Tryz.func94 Tryz.ntmps94 rfl rfl ?_
  refine x_seq (x_region (s_val rfl (v_assign rfl) (x_nil (n_then (x_seq (x_region (s_val rfl (v_move rfl) (s_do rfl (d_call Tryz.call133 rfl (nan_spec W0 _ x)) ?_))))))))
  rintro _ B_ ⟨rfl, hB_⟩
  obtain rfl := hB_.symm
  refine s_val rfl (v_assign rfl) (x_nil (n_then (x_seq (x_region (s_val rfl (v_move rfl) (s_do rfl (d_call Tryz.call133 rfl (nan_spec W0 _ y)) ?_))))))
  rintro _ B_ ⟨rfl, hB_⟩
  obtain rfl := hB_.symm
  refine s_val rfl (v_assign rfl) (x_nil (n_then (x_seq (x_seq (x_region (s_val rfl (v_move rfl) (x_nil (n_then ?_))))))))
  refine x_if rfl ?_ ?_
  · intro c3
    cases c3
  · intro c3
    refine x_skip (n_then (x_seq (x_seq (x_region (s_val rfl (v_move rfl) (x_nil (n_then ?_)))))))
    refine x_if rfl ?_ ?_
    · intro c7
      cases c7
    · intro c7
      refine x_skip (n_then (x_seq (x_seq (x_region (s_val rfl (v_move rfl) (s_val rfl (v_move rfl) (s_val rfl (v_lss rfl rfl) (x_nil (n_then ?_)))))))))
      refine x_if rfl ?_ ?_
      · intro c9
        refine x_seq (x_region (s_val rfl (v_assign rfl) (x_nil (n_then (x_ret (r_then (x_done (.inl rfl) (.cons (r_tmp rfl) .nil) ?_)))))))
        refine ⟨_, ⟨?_, rfl⟩, inferInstance⟩
        rw [cmpI, if_pos c9]; rfl
      · intro c9
        refine x_skip (n_then (x_seq (x_seq (x_region (s_val rfl (v_move rfl) (s_val rfl (v_move rfl) (s_val rfl (v_gtr rfl rfl) (x_nil (n_then ?_)))))))))
        refine x_if rfl ?_ ?_
        · intro c11
          refine x_seq (x_region (s_val rfl (v_assign rfl) (x_nil (n_then (x_ret (r_then (x_done (.inl rfl) (.cons (r_tmp rfl) .nil) ?_)))))))
          refine ⟨_, ⟨?_, rfl⟩, inferInstance⟩
          rw [cmpI, if_neg c9, if_pos (by omega)]; rfl
        · intro c11
          refine x_skip (n_then (x_seq (x_region (s_val rfl (v_assign rfl) (x_nil (n_then (x_ret (x_done (.inl rfl) (.cons (r_tmp rfl) .nil) ?_))))))))
          refine ⟨_, ⟨?_, rfl⟩, inferInstance⟩
          rw [cmpI, if_neg c9, if_neg (by omega)]; rfl
theorem list1_spec (W0 : World) (R : List HP) (x y : It) : Spec Tryz.prog W0 93 [.agg (itemV x).toArray, .agg (itemV y).toArray] R (fun v B => v = .int .i64 (cmpI x.u y.u) ∧ B = R) := by
  refine spec_body Tryz.func93 Tryz.ntmps93 rfl rfl ?_
  refine x_seq (x_region (s_do rfl (d_boxA rfl) ?_))
  rintro _ _ ⟨b1, rfl, rfl⟩
  refine s_do rfl (d_boxA rfl) ?_
  rintro _ _ ⟨b2, rfl, rfl⟩
  refine s_val rfl (v_assign rfl) (x_nil (n_then (x_seq (x_region ?_))))
  refine s_val rfl (v_fieldAddr rfl Tryz.underlying167 rfl Tryz.sizeOf3 rfl (by first | exact Nat.zero_add _ | rfl)) ?_
  refine s_val rfl (v_load Tryz.isAgg3 rfl (cell_own rfl)) ?_
  refine s_val rfl (v_fieldAddr rfl Tryz.underlying167 rfl Tryz.sizeOf3 rfl (by first | exact Nat.zero_add _ | rfl)) ?_
  refine s_val rfl (v_load Tryz.isAgg3 rfl (cell_own rfl)) ?_
  refine s_do rfl (d_call Tryz.call94 rfl (cmp_spec W0 _ x.u y.u)) ?_
  rintro _ B_ ⟨rfl, hB_⟩
  obtain rfl := hB_.symm
  refine s_val rfl (v_assign rfl) (x_nil (n_then (x_ret (x_done (.inl rfl) (.cons (r_tmp rfl) .nil) ?_))))
  exact ⟨_, ⟨rfl, rfl⟩, inferInstance⟩
def Srt (l : List It) (j i : Nat) : Prop := ∀ p q, p < q → q ≤ i → q ≠ j → us l p ≤ us l q
theorem srt_swap {l : List It} {j i : Nat} (h : Srt l j i) (hj : 0 < j) (hji : j ≤ i) (hi : i < l.length) (hlt : us l j < us l (j - 1)) : Srt (swapL l j (j - 1)) (j - 1) i := by
  have sw := us_swapL (l := l) (i := j) (j := j - 1) (by omega) (by omega)
  intro p q hpq hq hne
  rw [sw, sw]
  have hjj : ¬ j - 1 = j := by omega
  by_cases e1 : q = j
  · subst e1
    rw [if_pos (rfl : q = q)]
    by_cases e2 : p = q - 1
    · rw [if_neg (by omega), if_pos e2]; omega
    · rw [if_neg (by omega), if_neg e2]; exact h p (q - 1) (by omega) (by omega) (by omega)
  · rw [if_neg e1, if_neg hne]
    by_cases e2 : p = j
    · rw [if_pos e2]; exact h (j - 1) q (by omega) hq e1
    · rw [if_neg e2]
      by_cases e3 : p = j - 1
      · rw [if_pos e3]; exact h j q (by omega) hq e1
      · rw [if_neg e3]; exact h p q hpq hq e1
theorem srt_done {l : List It} {j i : Nat} (h : Srt l j i) (hd : j = 0 ∨ us l (j - 1) ≤ us l j) : ∀ p q, p < q → q ≤ i → us l p ≤ us l q := fun p q hpq hq => by
  by_cases e : q = j
  · subst e
    rcases hd with h0 | h1
    · omega
    · by_cases e2 : p = q - 1
      · subst e2; exact h1
      · have := h p (q - 1) (by omega) (by omega) (by omega); omega
  · exact h p q hpq hq e
theorem insSort_spec (W0 : World) (R : List HP) (g c : Nat) (its : List It) (sp : List Value) (hN : its.length < 900) (h0 : 0 < its.length) :
    Spec Tryz.prog W0 163 [.slice (some ⟨g, 0, none⟩) its.length c, .int .i64 0, .int .i64 (its.length : Nat), .func (.func 93) #[] #[]]
      (pt g (cob (its.flatMap itemV ++ sp) 167) :: R)
      (fun v B => ∃ l : List It, v = .tuple #[] ∧ B = pt g (cob (l.flatMap itemV ++ sp) 167) :: R ∧ l.Perm its ∧ ∀ p q, p < q → q < its.length → us l p ≤ us l q) := by
  refine spec_body Tryz.func163 Tryz.ntmps163 rfl rfl ?_
  refine x_seq (x_region (s_val rfl (v_move rfl) ?_))
  refine s_val rfl (v_add rfl rfl (w64 (by omega))) ?_
  refine s_val rfl (v_assign rfl) (x_nil (n_then (x_block ?_)))
  refine x_loop (fun X : List It × Nat => X.1.Perm its ∧ 0 < X.2 ∧ X.2 ≤ its.length ∧ ∀ p q, p < q → q < X.2 → us X.1 p ≤ us X.1 q) (fun X => [(0, .slice (some ⟨g, 0, none⟩) its.length c), (1, .int .i64 0), (2, .int .i64 (its.length : Nat)), (3, .func (.func 93) #[] #[]), (8, .int .i64 X.2)]) (fun X => pt g (cob (X.1.flatMap itemV ++ sp) 167) :: R) (fun X => its.length - X.2) (its, 1) ?_ ?_ ?_ ?_
  · exact ⟨List.Perm.refl _, Nat.one_pos, h0, fun p q h1 h2 => by dsimp only at h2; omega⟩
  · repeat (first | exact sub_nil | refine sub_cons rfl ?_)
  · exact inferInstance
  · intro ⟨l, i⟩ ⟨hp, hi0, hi, hS⟩
    dsimp only at hp hi0 hi hS ⊢
    refine x_seq (x_seq (x_region (s_val rfl (v_move rfl) (s_val rfl (v_move rfl) (s_val rfl (v_lss rfl rfl) (x_nil (n_then ?_)))))))
    refine x_if rfl ?_ ?_
    · intro c1
      refine x_skip (n_then (x_seq (x_block (x_seq (x_region (s_val rfl (v_move rfl) (s_val rfl (v_assign rfl) (x_nil (n_then (x_block ?_))))))))))
      refine x_loop (fun X : List It × Nat => X.1.Perm its ∧ X.2 ≤ i ∧ Srt X.1 X.2 i) (fun X => [(0, .slice (some ⟨g, 0, none⟩) its.length c), (1, .int .i64 0), (2, .int .i64 (its.length : Nat)), (3, .func (.func 93) #[] #[]), (8, .int .i64 i), (9, .int .i64 X.2)]) (fun X => pt g (cob (X.1.flatMap itemV ++ sp) 167) :: R) (fun X => X.2) (l, i) ?_ ?_ ?_ ?_
      · exact ⟨hp, Nat.le_refl _, fun p q h1 h2 h3 => hS p q h1 (by dsimp only at h3; omega)⟩
      · repeat (first | exact sub_nil | refine sub_cons rfl ?_)
      · exact inferInstance
      · intro ⟨l2, j⟩ ⟨hp2, hj, hS2⟩
        dsimp only at hp2 hj hS2 ⊢
        have hl2 := hp2.length_eq
        refine x_seq (x_seq ?_)
        refine x_draw [(g, 0, _)] 17 mixed rfl (sc_own sc_end) (fun hS => ?_)
        refine d_take 0 rfl rfl (by kernel_rfl) (by kernel_rfl) (by kernel_rfl) rfl hS (v_move rfl) ?_
        refine d_take 1 rfl rfl (by kernel_rfl) (by kernel_rfl) (by kernel_rfl) rfl hS (v_move rfl) ?_
        refine d_take 2 rfl rfl (by kernel_rfl) (by kernel_rfl) (by kernel_rfl) rfl hS (v_gtr rfl rfl) ?_
        refine d_take 3 rfl rfl (by kernel_rfl) (by kernel_rfl) (by kernel_rfl) rfl hS (v_move rfl) ?_
        refine x_split (t := 21) rfl ?_ ?_
        · intro c4g
          have hj0 : 0 < j := by omega
          have hjl : j < l2.length := by omega
          have hjm : (j : Int) - 1 = ((j - 1 : Nat) : Int) := by omega
          refine d_take 4 rfl rfl (by kernel_rfl) (by kernel_rfl) (by kernel_rfl) rfl hS (v_move rfl) ?_
          refine d_take 5 rfl rfl (by kernel_rfl) (by kernel_rfl) (by kernel_rfl) rfl hS (v_move rfl) ?_
          refine d_take 6 rfl rfl (by kernel_rfl) (by kernel_rfl) (by kernel_rfl) rfl hS (v_move rfl) ?_
          refine d_take 7 rfl rfl (by kernel_rfl) (by kernel_rfl) (by kernel_rfl) rfl hS (v_idx Tryz.underlying164 Tryz.sizeOf167 rfl rfl rfl (by omega) (by first | exact Nat.zero_add _ | rfl)) ?_
          refine d_take 9 rfl rfl (by kernel_rfl) (by kernel_rfl) (by kernel_rfl) rfl hS (v_move rfl) ?_
          refine d_take 10 rfl rfl (by kernel_rfl) (by kernel_rfl) (by kernel_rfl) rfl hS (v_move rfl) ?_
          refine d_take 11 rfl rfl (by kernel_rfl) (by kernel_rfl) (by kernel_rfl) rfl hS (v_sub rfl rfl (by rw [w64 (by omega)]; omega : IntKind.wrap .i64 ((j : Int) - 1) = ((j - 1 : Nat) : Int))) ?_
          refine d_take 12 rfl rfl (by kernel_rfl) (by kernel_rfl) (by kernel_rfl) rfl hS (v_idx Tryz.underlying164 Tryz.sizeOf167 rfl rfl rfl (by omega) (by first | exact Nat.zero_add _ | rfl)) ?_
          refine d_all (is := [8, 13]) (by kernel_rfl) rfl ⟨?_, ?_, trivial⟩
          · skip
            refine dx_one rfl rfl (d_val (v_loadAgg Tryz.isAgg167 Tryz.sizeOf167 rfl (cells_part (item_row l2 sp j hjl) rfl) rfl)) rfl ?_; clear hS
            rintro _ _ ⟨rfl, rfl⟩
            refine ⟨(sc_own sc_end), fun hS => ?_⟩
            refine d_one 13 (by kernel_rfl) rfl rfl (d_val (v_loadAgg Tryz.isAgg167 Tryz.sizeOf167 rfl (cells_part (item_row l2 sp (j - 1) (by omega)) rfl) rfl)) rfl ?_; clear hS
            rintro _ _ ⟨rfl, rfl⟩
            refine ⟨(sc_own sc_end), fun hS => ?_⟩
            refine d_one 14 (by kernel_rfl) rfl rfl (d_callv rfl Tryz.call93 rfl (list1_spec W0 _ (l2.getD j default) (l2.getD (j - 1) default))) rfl ?_; clear hS
            rintro _ B_ ⟨rfl, hB_⟩
            obtain rfl := hB_.symm
            refine ⟨(sc_own sc_end), fun hS => ?_⟩
            refine d_take 15 rfl rfl (by kernel_rfl) (by kernel_rfl) (by kernel_rfl) rfl hS (v_lss rfl rfl) ?_
            refine d_take 16 rfl rfl (by kernel_rfl) (by kernel_rfl) (by kernel_rfl) rfl hS (v_pick_t rfl rfl) ?_
            refine d_done (by kernel_rfl) ?_; clear hS
            refine n_then ?_
            refine x_if rfl ?_ ?_
            · intro c4
              refine x_skip (n_then (x_seq (x_block ?_)))
              refine x_draw [] 18 mixed rfl sc_end (fun hS => ?_)
              refine d_take 0 rfl rfl (by kernel_rfl) (by kernel_rfl) (by kernel_rfl) rfl hS (v_move rfl) ?_
              refine d_take 1 rfl rfl (by kernel_rfl) (by kernel_rfl) (by kernel_rfl) rfl hS (v_move rfl) ?_
              refine d_take 2 rfl rfl (by kernel_rfl) (by kernel_rfl) (by kernel_rfl) rfl hS (v_move rfl) ?_
              refine d_take 3 rfl rfl (by kernel_rfl) (by kernel_rfl) (by kernel_rfl) rfl hS (v_move rfl) ?_
              refine d_take 4 rfl rfl (by kernel_rfl) (by kernel_rfl) (by kernel_rfl) rfl hS (v_sub rfl rfl (by rw [w64 (by omega)]; omega : IntKind.wrap .i64 ((j : Int) - 1) = ((j - 1 : Nat) : Int))) ?_
              refine d_take 5 rfl rfl (by kernel_rfl) (by kernel_rfl) (by kernel_rfl) rfl hS (v_move rfl) ?_
              refine d_take 6 rfl rfl (by kernel_rfl) (by kernel_rfl) (by kernel_rfl) rfl hS (v_move rfl) ?_
              refine d_take 7 rfl rfl (by kernel_rfl) (by kernel_rfl) (by kernel_rfl) rfl hS (v_sub rfl rfl (by rw [w64 (by omega)]; omega : IntKind.wrap .i64 ((j : Int) - 1) = ((j - 1 : Nat) : Int))) ?_
              refine d_take 8 rfl rfl (by kernel_rfl) (by kernel_rfl) (by kernel_rfl) rfl hS (v_idx Tryz.underlying164 Tryz.sizeOf167 rfl rfl rfl (by omega) (by first | exact Nat.zero_add _ | rfl)) ?_
              refine d_take 10 rfl rfl (by kernel_rfl) (by kernel_rfl) (by kernel_rfl) rfl hS (v_move rfl) ?_
              refine d_take 11 rfl rfl (by kernel_rfl) (by kernel_rfl) (by kernel_rfl) rfl hS (v_move rfl) ?_
              refine d_take 12 rfl rfl (by kernel_rfl) (by kernel_rfl) (by kernel_rfl) rfl hS (v_idx Tryz.underlying164 Tryz.sizeOf167 rfl rfl rfl (by omega) (by first | exact Nat.zero_add _ | rfl)) ?_
              refine d_all (is := [9, 13]) (by kernel_rfl) rfl ⟨?_, ?_, trivial⟩
              · skip
                refine dx_one rfl rfl (d_val (v_loadAgg Tryz.isAgg167 Tryz.sizeOf167 rfl (cells_part (item_row l2 sp (j - 1) (by omega)) rfl) rfl)) rfl ?_; clear hS
                rintro _ _ ⟨rfl, rfl⟩
                refine ⟨sc_end, fun hS => ?_⟩
                refine d_one 13 (by kernel_rfl) rfl rfl (d_val (v_loadAgg Tryz.isAgg167 Tryz.sizeOf167 rfl (cells_part (item_row l2 sp j hjl) rfl) rfl)) rfl ?_; clear hS
                rintro _ _ ⟨rfl, rfl⟩
                refine ⟨sc_end, fun hS => ?_⟩
                refine d_take 14 rfl rfl (by kernel_rfl) (by kernel_rfl) (by kernel_rfl) rfl hS (v_idx Tryz.underlying164 Tryz.sizeOf167 rfl rfl rfl (by omega) (by first | exact Nat.zero_add _ | rfl)) ?_
                refine d_one 15 (by kernel_rfl) rfl rfl (d_storeAgg Tryz.sizeOf167 rfl rfl rfl rfl (item_bd l2 sp j hjl) (item_set l2 sp j (l2.getD (j - 1) default) hjl)) rfl ?_; clear hS
                rintro _ _ rfl
                refine ⟨sc_end, fun hS => ?_⟩
                refine d_take 16 rfl rfl (by kernel_rfl) (by kernel_rfl) (by kernel_rfl) rfl hS (v_idx Tryz.underlying164 Tryz.sizeOf167 rfl rfl rfl (by omega) (by first | exact Nat.zero_add _ | rfl)) ?_
                refine d_one 17 (by kernel_rfl) rfl rfl (d_storeAgg Tryz.sizeOf167 rfl rfl rfl rfl (item_bd (l2.set j (l2.getD (j - 1) default)) sp (j - 1) (by rw [List.length_set]; omega)) (item_set (l2.set j (l2.getD (j - 1) default)) sp (j - 1) (l2.getD j default) (by rw [List.length_set]; omega))) rfl ?_; clear hS
                rintro _ _ rfl
                refine ⟨sc_end, fun hS => ?_⟩
                refine d_done (by kernel_rfl) ?_; clear hS
                refine n_block (n_then (x_region (s_val rfl (v_move rfl) ?_)))
                refine s_val rfl (v_sub rfl rfl (by rw [w64 (by omega)]; omega : IntKind.wrap .i64 ((j : Int) - 1) = ((j - 1 : Nat) : Int))) ?_
                refine s_val rfl (v_assign rfl) (x_nil (n_then ?_))
                refine inv_intro (swapL l2 j (j - 1), j - 1) ?_ ?_ ?_ ?_
                · have hlt : us l2 j < us l2 (j - 1) := by
                    unfold us
                    unfold cmpI at c4
                    split at c4
                    · assumption
                    · split at c4 <;> omega
                  exact ⟨(swapL_perm hjl (by omega)).trans hp2, by show j - 1 ≤ i; omega, srt_swap hS2 hj0 hj (by omega) hlt⟩
                · show j - 1 < j; omega
                · repeat (first | exact sub_nil | refine sub_cons rfl ?_)
                · show Ent _ (pt g (cob ((swapL l2 j (j - 1)).flatMap itemV ++ sp) 167) :: R)
                  unfold swapL
                  exact inferInstance
              · skip
                refine dx_one rfl rfl (d_val (v_loadAgg Tryz.isAgg167 Tryz.sizeOf167 rfl (cells_part (item_row l2 sp j hjl) rfl) rfl)) rfl ?_; clear hS
                rintro _ _ ⟨rfl, rfl⟩
                refine ⟨sc_end, fun hS => ?_⟩
                refine d_one 9 (by kernel_rfl) rfl rfl (d_val (v_loadAgg Tryz.isAgg167 Tryz.sizeOf167 rfl (cells_part (item_row l2 sp (j - 1) (by omega)) rfl) rfl)) rfl ?_; clear hS
                rintro _ _ ⟨rfl, rfl⟩
                refine ⟨sc_end, fun hS => ?_⟩
                refine d_take 14 rfl rfl (by kernel_rfl) (by kernel_rfl) (by kernel_rfl) rfl hS (v_idx Tryz.underlying164 Tryz.sizeOf167 rfl rfl rfl (by omega) (by first | exact Nat.zero_add _ | rfl)) ?_
                refine d_one 15 (by kernel_rfl) rfl rfl (d_storeAgg Tryz.sizeOf167 rfl rfl rfl rfl (item_bd l2 sp j hjl) (item_set l2 sp j (l2.getD (j - 1) default) hjl)) rfl ?_; clear hS
                rintro _ _ rfl
                refine ⟨sc_end, fun hS => ?_⟩
                refine d_take 16 rfl rfl (by kernel_rfl) (by kernel_rfl) (by kernel_rfl) rfl hS (v_idx Tryz.underlying164 Tryz.sizeOf167 rfl rfl rfl (by omega) (by first | exact Nat.zero_add _ | rfl)) ?_
                refine d_one 17 (by kernel_rfl) rfl rfl (d_storeAgg Tryz.sizeOf167 rfl rfl rfl rfl (item_bd (l2.set j (l2.getD (j - 1) default)) sp (j - 1) (by rw [List.length_set]; omega)) (item_set (l2.set j (l2.getD (j - 1) default)) sp (j - 1) (l2.getD j default) (by rw [List.length_set]; omega))) rfl ?_; clear hS
                rintro _ _ rfl
                refine ⟨sc_end, fun hS => ?_⟩
                refine d_done (by kernel_rfl) ?_; clear hS
                refine n_block (n_then (x_region (s_val rfl (v_move rfl) ?_)))
                refine s_val rfl (v_sub rfl rfl (by rw [w64 (by omega)]; omega : IntKind.wrap .i64 ((j : Int) - 1) = ((j - 1 : Nat) : Int))) ?_
                refine s_val rfl (v_assign rfl) (x_nil (n_then ?_))
                refine inv_intro (swapL l2 j (j - 1), j - 1) ?_ ?_ ?_ ?_
                · have hlt : us l2 j < us l2 (j - 1) := by
                    unfold us
                    unfold cmpI at c4
                    split at c4
                    · assumption
                    · split at c4 <;> omega
                  exact ⟨(swapL_perm hjl (by omega)).trans hp2, by show j - 1 ≤ i; omega, srt_swap hS2 hj0 hj (by omega) hlt⟩
                · show j - 1 < j; omega
                · repeat (first | exact sub_nil | refine sub_cons rfl ?_)
                · show Ent _ (pt g (cob ((swapL l2 j (j - 1)).flatMap itemV ++ sp) 167) :: R)
                  unfold swapL
                  exact inferInstance
            · intro c4
              refine x_exit (e_then (e_then (e_block (n_block (n_then ?_)))))
              have hS3 : ∀ p q, p < q → q ≤ i → us l2 p ≤ us l2 q := srt_done hS2 (by
                first
                  | (left; omega)
                  | (right
                     unfold us
                     unfold cmpI at c4
                     split at c4
                     · omega
                     · omega))
              refine x_region (s_val rfl (v_move rfl) ?_)
              refine s_val rfl (v_add rfl rfl (by rw [w64 (by omega)]; omega : IntKind.wrap .i64 ((i : Int) + 1) = ((i + 1 : Nat) : Int))) ?_
              refine s_val rfl (v_assign rfl) (x_nil (n_then ?_))
              refine inv_intro (l2, i + 1) ?_ ?_ ?_ ?_
              · exact ⟨hp2, Nat.succ_pos _, by show i + 1 ≤ its.length; omega, fun p q h1 h2 => hS3 p q h1 (by dsimp only at h2; omega)⟩
              · show its.length - (i + 1) < its.length - i; omega
              · repeat (first | exact sub_nil | refine sub_cons rfl ?_)
              · exact inferInstance
          · skip
            refine dx_one rfl rfl (d_val (v_loadAgg Tryz.isAgg167 Tryz.sizeOf167 rfl (cells_part (item_row l2 sp (j - 1) (by omega)) rfl) rfl)) rfl ?_; clear hS
            rintro _ _ ⟨rfl, rfl⟩
            refine ⟨(sc_own sc_end), fun hS => ?_⟩
            refine d_one 8 (by kernel_rfl) rfl rfl (d_val (v_loadAgg Tryz.isAgg167 Tryz.sizeOf167 rfl (cells_part (item_row l2 sp j hjl) rfl) rfl)) rfl ?_; clear hS
            rintro _ _ ⟨rfl, rfl⟩
            refine ⟨(sc_own sc_end), fun hS => ?_⟩
            refine d_one 14 (by kernel_rfl) rfl rfl (d_callv rfl Tryz.call93 rfl (list1_spec W0 _ (l2.getD j default) (l2.getD (j - 1) default))) rfl ?_; clear hS
            rintro _ B_ ⟨rfl, hB_⟩
            obtain rfl := hB_.symm
            refine ⟨(sc_own sc_end), fun hS => ?_⟩
            refine d_take 15 rfl rfl (by kernel_rfl) (by kernel_rfl) (by kernel_rfl) rfl hS (v_lss rfl rfl) ?_
            refine d_take 16 rfl rfl (by kernel_rfl) (by kernel_rfl) (by kernel_rfl) rfl hS (v_pick_t rfl rfl) ?_
            refine d_done (by kernel_rfl) ?_; clear hS
            refine n_then ?_
            refine x_if rfl ?_ ?_
            · intro c4
              refine x_skip (n_then (x_seq (x_block ?_)))
              refine x_draw [] 18 mixed rfl sc_end (fun hS => ?_)
              refine d_take 0 rfl rfl (by kernel_rfl) (by kernel_rfl) (by kernel_rfl) rfl hS (v_move rfl) ?_
              refine d_take 1 rfl rfl (by kernel_rfl) (by kernel_rfl) (by kernel_rfl) rfl hS (v_move rfl) ?_
              refine d_take 2 rfl rfl (by kernel_rfl) (by kernel_rfl) (by kernel_rfl) rfl hS (v_move rfl) ?_
              refine d_take 3 rfl rfl (by kernel_rfl) (by kernel_rfl) (by kernel_rfl) rfl hS (v_move rfl) ?_
              refine d_take 4 rfl rfl (by kernel_rfl) (by kernel_rfl) (by kernel_rfl) rfl hS (v_sub rfl rfl (by rw [w64 (by omega)]; omega : IntKind.wrap .i64 ((j : Int) - 1) = ((j - 1 : Nat) : Int))) ?_
              refine d_take 5 rfl rfl (by kernel_rfl) (by kernel_rfl) (by kernel_rfl) rfl hS (v_move rfl) ?_
              refine d_take 6 rfl rfl (by kernel_rfl) (by kernel_rfl) (by kernel_rfl) rfl hS (v_move rfl) ?_
              refine d_take 7 rfl rfl (by kernel_rfl) (by kernel_rfl) (by kernel_rfl) rfl hS (v_sub rfl rfl (by rw [w64 (by omega)]; omega : IntKind.wrap .i64 ((j : Int) - 1) = ((j - 1 : Nat) : Int))) ?_
              refine d_take 8 rfl rfl (by kernel_rfl) (by kernel_rfl) (by kernel_rfl) rfl hS (v_idx Tryz.underlying164 Tryz.sizeOf167 rfl rfl rfl (by omega) (by first | exact Nat.zero_add _ | rfl)) ?_
              refine d_take 10 rfl rfl (by kernel_rfl) (by kernel_rfl) (by kernel_rfl) rfl hS (v_move rfl) ?_
              refine d_take 11 rfl rfl (by kernel_rfl) (by kernel_rfl) (by kernel_rfl) rfl hS (v_move rfl) ?_
              refine d_take 12 rfl rfl (by kernel_rfl) (by kernel_rfl) (by kernel_rfl) rfl hS (v_idx Tryz.underlying164 Tryz.sizeOf167 rfl rfl rfl (by omega) (by first | exact Nat.zero_add _ | rfl)) ?_
              refine d_all (is := [9, 13]) (by kernel_rfl) rfl ⟨?_, ?_, trivial⟩
              · skip
                refine dx_one rfl rfl (d_val (v_loadAgg Tryz.isAgg167 Tryz.sizeOf167 rfl (cells_part (item_row l2 sp (j - 1) (by omega)) rfl) rfl)) rfl ?_; clear hS
                rintro _ _ ⟨rfl, rfl⟩
                refine ⟨sc_end, fun hS => ?_⟩
                refine d_one 13 (by kernel_rfl) rfl rfl (d_val (v_loadAgg Tryz.isAgg167 Tryz.sizeOf167 rfl (cells_part (item_row l2 sp j hjl) rfl) rfl)) rfl ?_; clear hS
                rintro _ _ ⟨rfl, rfl⟩
                refine ⟨sc_end, fun hS => ?_⟩
                refine d_take 14 rfl rfl (by kernel_rfl) (by kernel_rfl) (by kernel_rfl) rfl hS (v_idx Tryz.underlying164 Tryz.sizeOf167 rfl rfl rfl (by omega) (by first | exact Nat.zero_add _ | rfl)) ?_
                refine d_one 15 (by kernel_rfl) rfl rfl (d_storeAgg Tryz.sizeOf167 rfl rfl rfl rfl (item_bd l2 sp j hjl) (item_set l2 sp j (l2.getD (j - 1) default) hjl)) rfl ?_; clear hS
                rintro _ _ rfl
                refine ⟨sc_end, fun hS => ?_⟩
                refine d_take 16 rfl rfl (by kernel_rfl) (by kernel_rfl) (by kernel_rfl) rfl hS (v_idx Tryz.underlying164 Tryz.sizeOf167 rfl rfl rfl (by omega) (by first | exact Nat.zero_add _ | rfl)) ?_
                refine d_one 17 (by kernel_rfl) rfl rfl (d_storeAgg Tryz.sizeOf167 rfl rfl rfl rfl (item_bd (l2.set j (l2.getD (j - 1) default)) sp (j - 1) (by rw [List.length_set]; omega)) (item_set (l2.set j (l2.getD (j - 1) default)) sp (j - 1) (l2.getD j default) (by rw [List.length_set]; omega))) rfl ?_; clear hS
                rintro _ _ rfl
                refine ⟨sc_end, fun hS => ?_⟩
                refine d_done (by kernel_rfl) ?_; clear hS
                refine n_block (n_then (x_region (s_val rfl (v_move rfl) ?_)))
                refine s_val rfl (v_sub rfl rfl (by rw [w64 (by omega)]; omega : IntKind.wrap .i64 ((j : Int) - 1) = ((j - 1 : Nat) : Int))) ?_
                refine s_val rfl (v_assign rfl) (x_nil (n_then ?_))
                refine inv_intro (swapL l2 j (j - 1), j - 1) ?_ ?_ ?_ ?_
                · have hlt : us l2 j < us l2 (j - 1) := by
                    unfold us
                    unfold cmpI at c4
                    split at c4
                    · assumption
                    · split at c4 <;> omega
                  exact ⟨(swapL_perm hjl (by omega)).trans hp2, by show j - 1 ≤ i; omega, srt_swap hS2 hj0 hj (by omega) hlt⟩
                · show j - 1 < j; omega
                · repeat (first | exact sub_nil | refine sub_cons rfl ?_)
                · show Ent _ (pt g (cob ((swapL l2 j (j - 1)).flatMap itemV ++ sp) 167) :: R)
                  unfold swapL
                  exact inferInstance
              · skip
                refine dx_one rfl rfl (d_val (v_loadAgg Tryz.isAgg167 Tryz.sizeOf167 rfl (cells_part (item_row l2 sp j hjl) rfl) rfl)) rfl ?_; clear hS
                rintro _ _ ⟨rfl, rfl⟩
                refine ⟨sc_end, fun hS => ?_⟩
                refine d_one 9 (by kernel_rfl) rfl rfl (d_val (v_loadAgg Tryz.isAgg167 Tryz.sizeOf167 rfl (cells_part (item_row l2 sp (j - 1) (by omega)) rfl) rfl)) rfl ?_; clear hS
                rintro _ _ ⟨rfl, rfl⟩
                refine ⟨sc_end, fun hS => ?_⟩
                refine d_take 14 rfl rfl (by kernel_rfl) (by kernel_rfl) (by kernel_rfl) rfl hS (v_idx Tryz.underlying164 Tryz.sizeOf167 rfl rfl rfl (by omega) (by first | exact Nat.zero_add _ | rfl)) ?_
                refine d_one 15 (by kernel_rfl) rfl rfl (d_storeAgg Tryz.sizeOf167 rfl rfl rfl rfl (item_bd l2 sp j hjl) (item_set l2 sp j (l2.getD (j - 1) default) hjl)) rfl ?_; clear hS
                rintro _ _ rfl
                refine ⟨sc_end, fun hS => ?_⟩
                refine d_take 16 rfl rfl (by kernel_rfl) (by kernel_rfl) (by kernel_rfl) rfl hS (v_idx Tryz.underlying164 Tryz.sizeOf167 rfl rfl rfl (by omega) (by first | exact Nat.zero_add _ | rfl)) ?_
                refine d_one 17 (by kernel_rfl) rfl rfl (d_storeAgg Tryz.sizeOf167 rfl rfl rfl rfl (item_bd (l2.set j (l2.getD (j - 1) default)) sp (j - 1) (by rw [List.length_set]; omega)) (item_set (l2.set j (l2.getD (j - 1) default)) sp (j - 1) (l2.getD j default) (by rw [List.length_set]; omega))) rfl ?_; clear hS
                rintro _ _ rfl
                refine ⟨sc_end, fun hS => ?_⟩
                refine d_done (by kernel_rfl) ?_; clear hS
                refine n_block (n_then (x_region (s_val rfl (v_move rfl) ?_)))
                refine s_val rfl (v_sub rfl rfl (by rw [w64 (by omega)]; omega : IntKind.wrap .i64 ((j : Int) - 1) = ((j - 1 : Nat) : Int))) ?_
                refine s_val rfl (v_assign rfl) (x_nil (n_then ?_))
                refine inv_intro (swapL l2 j (j - 1), j - 1) ?_ ?_ ?_ ?_
                · have hlt : us l2 j < us l2 (j - 1) := by
                    unfold us
                    unfold cmpI at c4
                    split at c4
                    · assumption
                    · split at c4 <;> omega
                  exact ⟨(swapL_perm hjl (by omega)).trans hp2, by show j - 1 ≤ i; omega, srt_swap hS2 hj0 hj (by omega) hlt⟩
                · show j - 1 < j; omega
                · repeat (first | exact sub_nil | refine sub_cons rfl ?_)
                · show Ent _ (pt g (cob ((swapL l2 j (j - 1)).flatMap itemV ++ sp) 167) :: R)
                  unfold swapL
                  exact inferInstance
            · intro c4
              refine x_exit (e_then (e_then (e_block (n_block (n_then ?_)))))
              have hS3 : ∀ p q, p < q → q ≤ i → us l2 p ≤ us l2 q := srt_done hS2 (by
                first
                  | (left; omega)
                  | (right
                     unfold us
                     unfold cmpI at c4
                     split at c4
                     · omega
                     · omega))
              refine x_region (s_val rfl (v_move rfl) ?_)
              refine s_val rfl (v_add rfl rfl (by rw [w64 (by omega)]; omega : IntKind.wrap .i64 ((i : Int) + 1) = ((i + 1 : Nat) : Int))) ?_
              refine s_val rfl (v_assign rfl) (x_nil (n_then ?_))
              refine inv_intro (l2, i + 1) ?_ ?_ ?_ ?_
              · exact ⟨hp2, Nat.succ_pos _, by show i + 1 ≤ its.length; omega, fun p q h1 h2 => hS3 p q h1 (by dsimp only at h2; omega)⟩
              · show its.length - (i + 1) < its.length - i; omega
              · repeat (first | exact sub_nil | refine sub_cons rfl ?_)
              · exact inferInstance
        · intro c4g
          refine d_skip 4 rfl rfl (by kernel_rfl) (by kernel_rfl) (by kernel_rfl) rfl hS ?_
          refine d_skip 5 rfl rfl (by kernel_rfl) (by kernel_rfl) (by kernel_rfl) rfl hS ?_
          refine d_skip 6 rfl rfl (by kernel_rfl) (by kernel_rfl) (by kernel_rfl) rfl hS ?_
          refine d_skip 7 rfl rfl (by kernel_rfl) (by kernel_rfl) (by kernel_rfl) rfl hS ?_
          refine d_skip 8 rfl rfl (by kernel_rfl) (by kernel_rfl) (by kernel_rfl) rfl hS ?_
          refine d_skip 9 rfl rfl (by kernel_rfl) (by kernel_rfl) (by kernel_rfl) rfl hS ?_
          refine d_skip 10 rfl rfl (by kernel_rfl) (by kernel_rfl) (by kernel_rfl) rfl hS ?_
          refine d_skip 11 rfl rfl (by kernel_rfl) (by kernel_rfl) (by kernel_rfl) rfl hS ?_
          refine d_skip 12 rfl rfl (by kernel_rfl) (by kernel_rfl) (by kernel_rfl) rfl hS ?_
          refine d_skip 13 rfl rfl (by kernel_rfl) (by kernel_rfl) (by kernel_rfl) rfl hS ?_
          refine d_skip 14 rfl rfl (by kernel_rfl) (by kernel_rfl) (by kernel_rfl) rfl hS ?_
          refine d_skip 15 rfl rfl (by kernel_rfl) (by kernel_rfl) (by kernel_rfl) rfl hS ?_
          refine d_take 16 rfl rfl (by kernel_rfl) (by kernel_rfl) (by kernel_rfl) rfl hS (v_pick_f rfl rfl) ?_
          refine d_done (by kernel_rfl) ?_; clear hS
          refine n_then (x_iff rfl (x_exit (e_then (e_then (e_block (n_block (n_then ?_)))))))
          have hS3 : ∀ p q, p < q → q ≤ i → us l2 p ≤ us l2 q := srt_done hS2 (by
            first
              | (left; omega)
              | (right
                 unfold us
                 unfold cmpI at c4
                 split at c4
                 · omega
                 · omega))
          refine x_region (s_val rfl (v_move rfl) ?_)
          refine s_val rfl (v_add rfl rfl (by rw [w64 (by omega)]; omega : IntKind.wrap .i64 ((i : Int) + 1) = ((i + 1 : Nat) : Int))) ?_
          refine s_val rfl (v_assign rfl) (x_nil (n_then ?_))
          refine inv_intro (l2, i + 1) ?_ ?_ ?_ ?_
          · exact ⟨hp2, Nat.succ_pos _, by show i + 1 ≤ its.length; omega, fun p q h1 h2 => hS3 p q h1 (by dsimp only at h2; omega)⟩
          · show its.length - (i + 1) < its.length - i; omega
          · repeat (first | exact sub_nil | refine sub_cons rfl ?_)
          · exact inferInstance
    · intro c1
      refine x_exit (e_then (e_then (e_block (x_done (.inr rfl) .nil ?_))))
      obtain rfl : i = its.length := by omega
      exact ⟨_, ⟨l, rfl, rfl, hp, hS⟩, inferInstance⟩
end Go.Proofs.YtllkdnadmmjehaaGreatDoor
namespace Go.Proofs.YtllkdnadmmjehaaGreatDoor
open Go.RowKit
set_option linter.unusedSimpArgs false
set_option linter.unusedVariables false
set_option maxRecDepth 20000
theorem len64_spec (W0 : World) (R : List HP) (x : Nat) (hx : x < 60000) : Spec Tryz.prog W0 172 [.int .u64 x] R (fun v B => ∃ r : Nat, v = .int .i64 r ∧ B = R) := by
  refine spec_body Tryz.func172 Tryz.ntmps172 rfl rfl ?_
  refine x_seq (x_region (s_val rfl (v_assign rfl) (x_nil (n_then (x_seq (x_seq (x_region (s_val rfl (v_move rfl) (s_val rfl (v_geq rfl rfl) (x_nil (n_then ?_)))))))))))
  refine x_if rfl ?_ ?_
  · intro c1
    omega
  · intro c1
    refine x_skip (n_then (x_seq (x_seq (x_region (s_val rfl (v_move rfl) (s_val rfl (v_geq rfl rfl) (x_nil (n_then ?_))))))))
    refine x_if rfl ?_ ?_
    · intro c4
      omega
    · intro c4
      refine x_skip (n_then ?_)
      refine x_cut (fun z : Nat × Nat => z.1 < 256 ∧ z.2 ≤ 8) (fun z => [(0, .int .u64 z.1), (2, .int .i64 z.2)]) (fun _ => R) ?_ ?_
      · skip
        refine x_seq (x_region (s_val rfl (v_move rfl) (s_val rfl (v_geq rfl rfl) (x_nil (n_then ?_)))))
        refine x_if rfl ?_ ?_
        · intro c7
          refine x_seq (x_region (s_val rfl (v_move rfl) ?_))
          refine s_val rfl (v_shr rfl rfl (by decide) (bShr_nat (s := 8) (by decide))) ?_
          refine s_val rfl (v_assign rfl) (x_nil (n_then (x_region (s_val rfl (v_move rfl) ?_))))
          refine s_val rfl (v_add rfl rfl (by first | exact w64 (by omega) | rfl)) ?_
          refine s_val rfl (v_assign rfl) (x_nil (n_then ?_))
          refine mid_intro (x / 2 ^ 8, 8) ?_ ?_ ?_
          · exact ⟨by show x / 256 < 256; omega, Nat.le_refl _⟩
          · repeat (first | exact sub_nil | refine sub_cons rfl ?_)
          · exact inferInstance
        · intro c7
          refine x_skip (n_then ?_)
          refine mid_intro (x, 0) ?_ ?_ ?_
          · exact ⟨by show x < 256; omega, Nat.zero_le _⟩
          · repeat (first | exact sub_nil | refine sub_cons rfl ?_)
          · exact inferInstance
      · intro ⟨y, n⟩ ⟨hy, hn⟩
        dsimp only at hy hn ⊢
        refine x_seq (x_region (s_val rfl (v_move rfl) (s_val rfl (v_move rfl) ?_)))
        refine s_val rfl (v_conv Tryz.underlying244 Tryz.underlying5 rfl (w8u (by omega))) ?_
        refine s_idxStr (j := y) rfl Tryz.underlying9 rfl rfl rfl (by show y < 256; exact hy) fun m hm => ?_
        refine s_val rfl (v_conv Tryz.underlying5 Tryz.underlying3 rfl (w64 (by omega))) ?_
        refine s_val rfl (v_add rfl rfl (by rw [w64 (by omega)]; omega : IntKind.wrap .i64 ((n : Int) + (m : Int)) = ((n + m : Nat) : Int))) ?_
        refine s_val rfl (v_assign rfl) (x_nil (n_then (x_ret (x_done (.inl rfl) (.cons (r_tmp rfl) .nil) ?_))))
        exact ⟨_, ⟨n + m, rfl, rfl⟩, inferInstance⟩
theorem len_spec (W0 : World) (R : List HP) (x : Nat) (hx : x < 60000) : Spec Tryz.prog W0 155 [.int .u64 x] R (fun v B => ∃ r : Nat, v = .int .i64 r ∧ B = R) := by
  refine spec_body Tryz.func155 Tryz.ntmps155 rfl rfl ?_
  refine x_seq (x_region (s_val rfl (v_assign rfl) (x_nil (n_then (x_seq (x_ifcf ?_))))))
  refine x_skip (n_then (x_seq (x_region (s_val rfl (v_move rfl) (s_do rfl (d_call Tryz.call172 rfl (len64_spec W0 _ x hx)) ?_)))))
  rintro _ B_ ⟨r, rfl, hB_⟩
  obtain rfl := hB_.symm
  refine s_val rfl (v_assign rfl) (x_nil (n_then (x_ret (x_done (.inl rfl) (.cons (r_tmp rfl) .nil) ?_))))
  exact ⟨_, ⟨r, rfl, rfl⟩, inferInstance⟩
theorem pdq_spec (W0 : World) (R : List HP) (g c : Nat) (its : List It) (sp : List Value) (k : Int) (hN : its.length ≤ 12) (h0 : 0 < its.length) :
    Spec Tryz.prog W0 154 [.slice (some ⟨g, 0, none⟩) its.length c, .int .i64 0, .int .i64 (its.length : Nat), .int .i64 k, .func (.func 93) #[] #[]]
      (pt g (cob (its.flatMap itemV ++ sp) 167) :: R)
      (fun v B => ∃ l : List It, v = .tuple #[] ∧ B = pt g (cob (l.flatMap itemV ++ sp) 167) :: R ∧ l.Perm its ∧ ∀ p q, p < q → q < its.length → us l p ≤ us l q) := by
  refine spec_body Tryz.func154 Tryz.ntmps154 rfl rfl ?_
  refine x_seq (x_region (s_val rfl (v_assign rfl) (x_nil (n_then (x_seq (x_region (s_val rfl (v_assign rfl) (x_nil (n_then (x_block ?_))))))))))
  refine x_loop (fun _ : Unit => True) (fun _ => [(0, .slice (some ⟨g, 0, none⟩) its.length c), (1, .int .i64 0), (2, .int .i64 (its.length : Nat)), (3, .int .i64 k), (4, .func (.func 93) #[] #[])]) (fun _ => pt g (cob (its.flatMap itemV ++ sp) 167) :: R) (fun _ => 0) () ?_ ?_ ?_ ?_
  · trivial
  · repeat (first | exact sub_nil | refine sub_cons rfl ?_)
  · exact inferInstance
  · intro u hu
    refine x_block (x_seq (x_region (s_val rfl (v_move rfl) (s_val rfl (v_move rfl) ?_))))
    refine s_val rfl (v_sub rfl rfl (by rw [w64 (by omega)]; omega : IntKind.wrap .i64 ((its.length : Int) - 0) = ((its.length : Nat) : Int))) ?_
    refine s_val rfl (v_assign rfl) (x_nil (n_then (x_seq (x_seq (x_region (s_val rfl (v_move rfl) (s_val rfl (v_leq rfl rfl) (x_nil (n_then ?_)))))))))
    refine x_if rfl ?_ ?_
    · intro c3
      refine x_seq (x_region (s_val rfl (v_move rfl) (s_val rfl (v_move rfl) (s_val rfl (v_move rfl) (s_val rfl (v_move rfl) ?_)))))
      refine s_do rfl (d_call1 Tryz.call163 rfl (insSort_spec W0 _ g c its sp (by omega) h0)) ?_
      rintro _ B_ ⟨l, rfl, hB_, hp, hS⟩
      obtain rfl := hB_.symm
      refine x_nil (n_then (x_ret (r_then (r_block (r_then (r_block (x_done (.inl rfl) .nil ?_)))))))
      exact ⟨_, ⟨l, rfl, rfl, hp, hS⟩, inferInstance⟩
    · intro c3
      omega
theorem pdq0_spec (W0 : World) (R : List HP) (a : Option Addr) (c : Nat) (k : Int) :
    Spec Tryz.prog W0 154 [.slice a 0 c, .int .i64 0, .int .i64 0, .int .i64 k, .func (.func 93) #[] #[]] R (fun v B => v = .tuple #[] ∧ B = R) := by
  have hi : Spec Tryz.prog W0 163 [.slice a 0 c, .int .i64 0, .int .i64 0, .func (.func 93) #[] #[]] R (fun v B => v = .tuple #[] ∧ B = R) := by
    refine spec_body Tryz.func163 Tryz.ntmps163 rfl rfl ?_
    refine x_seq (x_region (s_val rfl (v_move rfl) ?_))
    refine s_val rfl (v_add rfl rfl (w64 (by omega))) ?_
    refine s_val rfl (v_assign rfl) (x_nil (n_then (x_block ?_)))
    refine x_loop (fun _ : Unit => True) (fun _ => [(2, .int .i64 0), (8, .int .i64 1)]) (fun _ => R) (fun _ => 0) () ?_ ?_ ?_ ?_
    · trivial
    · repeat (first | exact sub_nil | refine sub_cons rfl ?_)
    · exact inferInstance
    · intro u hu
      refine x_seq (x_seq (x_region (s_val rfl (v_move rfl) (s_val rfl (v_move rfl) (s_val rfl (v_lss rfl rfl) (x_nil (n_then ?_)))))))
      refine x_if rfl ?_ ?_
      · intro c1
        omega
      · intro c1
        refine x_exit (e_then (e_then (e_block (x_done (.inr rfl) .nil ?_))))
        exact ⟨_, ⟨rfl, rfl⟩, inferInstance⟩
  refine spec_body Tryz.func154 Tryz.ntmps154 rfl rfl ?_
  refine x_seq (x_region (s_val rfl (v_assign rfl) (x_nil (n_then (x_seq (x_region (s_val rfl (v_assign rfl) (x_nil (n_then (x_block ?_))))))))))
  refine x_loop (fun _ : Unit => True) (fun _ => [(0, .slice a 0 c), (1, .int .i64 0), (2, .int .i64 0), (3, .int .i64 k), (4, .func (.func 93) #[] #[])]) (fun _ => R) (fun _ => 0) () ?_ ?_ ?_ ?_
  · trivial
  · repeat (first | exact sub_nil | refine sub_cons rfl ?_)
  · exact inferInstance
  · intro u hu
    refine x_block (x_seq (x_region (s_val rfl (v_move rfl) (s_val rfl (v_move rfl) ?_))))
    refine s_val rfl (v_sub rfl rfl (w64 (by omega))) ?_
    refine s_val rfl (v_assign rfl) (x_nil (n_then (x_seq (x_seq (x_region (s_val rfl (v_move rfl) (s_val rfl (v_leq rfl rfl) (x_nil (n_then ?_)))))))))
    refine x_if rfl ?_ ?_
    · intro c3
      refine x_seq (x_region (s_val rfl (v_move rfl) (s_val rfl (v_move rfl) (s_val rfl (v_move rfl) (s_val rfl (v_move rfl) (s_do rfl (d_call Tryz.call163 rfl (hi)) ?_))))))
      rintro _ B_ ⟨rfl, hB_⟩
      obtain rfl := hB_.symm
      refine x_nil (n_then (x_ret (r_then (r_block (r_then (r_block (x_done (.inl rfl) .nil ?_)))))))
      exact ⟨_, ⟨rfl, rfl⟩, inferInstance⟩
    · intro c3
      omega
theorem sortF_spec (W0 : World) (R : List HP) (a : Option Addr) (c : Nat) (its : List It) (hN : its.length ≤ 12) :
    Spec Tryz.prog W0 131 [.slice a its.length c, .func (.func 93) #[] #[]]
      (osl 167 6 (.slice a its.length c) (its.flatMap itemV) :: R)
      (fun v B => ∃ l : List It, v = .tuple #[] ∧ B = osl 167 6 (.slice a its.length c) (l.flatMap itemV) :: R ∧ l.Perm its ∧ ∀ p q, p < q → q < its.length → us l p ≤ us l q) := by
  refine spec_osl (fun h1 h2 => ?_) fun g n cap sp h1 h2 h3 h4 h5 => ?_
  · have h0 : its.length = 0 := by have := flat_len itemV_len its; rw [h2] at this; simp at this; omega
    obtain rfl : its = [] := List.eq_nil_of_length_eq_zero h0
    cases h1
    refine spec_body Tryz.func131 Tryz.ntmps131 rfl rfl ?_
    refine x_seq (x_region (s_val rfl (v_move rfl) (s_val rfl (v_len_slice Tryz.underlying164 rfl) (s_val rfl (v_assign rfl) (x_nil (n_then (x_region (s_val rfl (v_move rfl) (s_val rfl (v_move rfl) (s_val rfl (v_move rfl) (s_val rfl (v_conv Tryz.underlying3 Tryz.underlying212 rfl (show IntKind.wrap .u64 ((0 : Nat) : Int) = ((0 : Nat) : Int) from rfl)) ?_)))))))))))
    refine s_do rfl (d_call Tryz.call155 rfl (len_spec W0 _ 0 (by decide))) ?_
    rintro _ B_ ⟨r, rfl, hB_⟩
    obtain rfl := hB_.symm
    refine s_val rfl (v_move rfl) (s_do rfl (d_call Tryz.call154 rfl (pdq0_spec W0 _ none 0 r)) ?_)
    rintro _ B_ ⟨rfl, hB_⟩
    obtain rfl := hB_.symm
    refine x_nil (x_done (.inr rfl) .nil ?_)
    exact ⟨_, ⟨[], rfl, rfl, List.Perm.refl _, fun p q _ hq => by simp at hq⟩, ent_osl_nil⟩
  · cases h1
    by_cases hz : its.length = 0
    · obtain rfl : its = [] := List.eq_nil_of_length_eq_zero hz
      refine spec_body Tryz.func131 Tryz.ntmps131 rfl rfl ?_
      refine x_seq (x_region (s_val rfl (v_move rfl) (s_val rfl (v_len_slice Tryz.underlying164 rfl) (s_val rfl (v_assign rfl) (x_nil (n_then (x_region (s_val rfl (v_move rfl) (s_val rfl (v_move rfl) (s_val rfl (v_move rfl) (s_val rfl (v_conv Tryz.underlying3 Tryz.underlying212 rfl (show IntKind.wrap .u64 ((0 : Nat) : Int) = ((0 : Nat) : Int) from rfl)) ?_)))))))))))
      refine s_do rfl (d_call Tryz.call155 rfl (len_spec W0 _ 0 (by decide))) ?_
      rintro _ B_ ⟨r, rfl, hB_⟩
      obtain rfl := hB_.symm
      refine s_val rfl (v_move rfl) (s_do rfl (d_call Tryz.call154 rfl (pdq0_spec W0 _ _ c r)) ?_)
      rintro _ B_ ⟨rfl, hB_⟩
      obtain rfl := hB_.symm
      refine x_nil (x_done (.inr rfl) .nil ?_)
      exact ⟨_, ⟨[], rfl, rfl, List.Perm.refl _, fun p q _ hq => by simp at hq⟩, ent_osl h2 h3 h4 h5⟩
    · skip
      refine spec_body Tryz.func131 Tryz.ntmps131 rfl rfl ?_
      refine x_seq (x_region (s_val rfl (v_move rfl) (s_val rfl (v_len_slice Tryz.underlying164 rfl) (s_val rfl (v_assign rfl) (x_nil (n_then (x_region (s_val rfl (v_move rfl) (s_val rfl (v_move rfl) (s_val rfl (v_move rfl) ?_))))))))))
      refine s_val rfl (v_conv Tryz.underlying3 Tryz.underlying212 rfl (show IntKind.wrap .u64 ((its.length : Nat) : Int) = ((its.length : Nat) : Int) from by simp only [IntKind.wrap, IntKind.bits, IntKind.signed]; simp; omega)) ?_
      refine s_do rfl (d_call Tryz.call155 rfl (len_spec W0 _ its.length (by omega))) ?_
      rintro _ B_ ⟨r, rfl, hB_⟩
      obtain rfl := hB_.symm
      refine s_val rfl (v_move rfl) ?_
      refine s_do rfl (d_call1 Tryz.call154 rfl (pdq_spec W0 _ g c its sp r hN (by omega))) ?_
      rintro _ B_ ⟨l, rfl, hB_, hp, hS⟩
      obtain rfl := hB_.symm
      have hll := hp.length_eq
      refine x_nil (x_done (.inr rfl) .nil ?_)
      exact ⟨_, ⟨l, rfl, rfl, hp, hS⟩, ent_osl h2 h3 (by rw [flat_len itemV_len, hll]) (by rw [← h5]; simp only [List.length_append, flat_len itemV_len, hll])⟩
theorem sortedF_spec (W0 : World) (R : List HP) (bs c : Nat) (a : Option Addr) (its : List It) (hN : its.length ≤ 12) :
    Spec Tryz.prog W0 91 [.func (.func 132) #[] #[.pointer (some ⟨bs, 0, none⟩)], .func (.func 93) #[] #[]]
      (pt bs (cob [.slice a its.length c] 164) :: osl 167 6 (.slice a its.length c) (its.flatMap itemV) :: R)
      (fun v B => ∃ (l : List It) (a' : Option Addr) (c' : Nat), v = .slice a' l.length c' ∧ B = osl 167 6 (.slice a' l.length c') (l.flatMap itemV) :: osl 167 6 (.slice a its.length c) (its.flatMap itemV) :: R ∧ l.Perm its ∧ ∀ p q, p < q → q < its.length → us l p ≤ us l q) := by
  refine spec_body Tryz.func91 Tryz.ntmps91 rfl rfl ?_
  refine x_seq (x_region (s_val rfl (v_assign rfl) (x_nil (n_then (x_seq (x_region (s_val rfl (v_move rfl) ?_)))))))
  refine s_do rfl (d_call2 Tryz.call130 rfl (collect_spec W0 _ bs c a its (by omega))) ?_
  rintro _ B_ ⟨a2, c2, rfl, hB_⟩
  obtain rfl := hB_.symm
  refine s_val rfl (v_assign rfl) (x_nil (n_then (x_seq (x_region (s_val rfl (v_move rfl) (s_val rfl (v_move rfl) (s_do rfl (d_call1 Tryz.call131 rfl (sortF_spec W0 _ a2 c2 its hN)) ?_)))))))
  rintro _ B_ ⟨l, rfl, hB_, hp, hS⟩
  obtain rfl := hB_.symm
  have hll := hp.length_eq
  refine x_nil (n_then (x_seq (x_region (s_val rfl (v_move rfl) (s_val rfl (v_assign rfl) (x_nil (n_then (x_ret (x_done (.inl rfl) (.cons (r_tmp rfl) .nil) ?_)))))))))
  rw [← hll] at hS ⊢
  exact ⟨_, ⟨l, a2, c2, rfl, rfl, hp, hS⟩, inferInstance⟩
theorem sorted_eq : ∀ {l L : List It}, l.Perm L → (∀ p q, p < q → q < l.length → us l p ≤ us l q) → L.Pairwise (fun x y => x.u < y.u) → l = L
  | [], L, hp, _, _ => hp.nil_eq
  | x :: l, [], hp, _, _ => by have := hp.length_eq; simp at this
  | x :: l, y :: L, hp, hs, hw => by
    have h1 : ∀ z ∈ l, x.u ≤ z.u := fun z hz => by
      obtain ⟨i, hi, rfl⟩ := List.mem_iff_getElem.1 hz
      have := hs 0 (i + 1) (by omega) (by simp; omega)
      simpa [us, hi] using this
    obtain ⟨hw1, hw2⟩ := List.pairwise_cons.1 hw
    have hx : x ∈ y :: L := hp.subset (List.mem_cons_self ..)
    have hy : y ∈ x :: l := hp.symm.subset (List.mem_cons_self ..)
    have e : x = y := by
      rcases List.mem_cons.1 hx with h | h
      · exact h
      · rcases List.mem_cons.1 hy with h' | h'
        · exact h'.symm
        · have := hw1 x h; have := h1 y h'; omega
    subst e
    rw [sorted_eq (hp.cons_inv) (fun p q hpq hq => by
      have := hs (p + 1) (q + 1) (by omega) (by simp; omega)
      simpa [us] using this) hw2]
def keptV (x : It) : List Value := [.int .i64 x.kr, .int .i64 x.kp, .int .i64 x.ep, .int .i64 x.ef, .int .i64 x.er]
theorem keptV_len (x : It) : (keptV x).length = 5 := rfl
theorem List_spec18 (W0 : World) (R : List HP) (b : Nat) (its : List It) (rm nw : Value) (now : Nat) (L : List It) (hR : Rep its now L) (hN : L.length ≤ 12) :
    Spec Tryz.prog W0 52 [.pointer (some ⟨b, 0, none⟩)] (rowH b (its, [rm, nw, .bool true]) :: R)
      (fun v B => ∃ a c, v = .slice a L.length c ∧ B = osl 68 5 (.slice a L.length c) (L.flatMap keptV) :: rowH b (its, [rm, nw, .bool true]) :: R) := by
  have hlen := hR.length
  refine spec_body Tryz.func52 Tryz.ntmps52 rfl rfl ?_
  refine x_seq (x_region (s_val rfl (v_assign rfl) (x_nil (n_then (x_seq (x_seq (x_region (s_val rfl (v_move rfl) (s_do rfl (d_call1 Tryz.call90 rfl (none_spec W0 _ b its rm nw)) ?_)))))))))
  rintro _ B_ ⟨rfl, hB_⟩
  obtain rfl := hB_.symm
  refine x_nil (n_then ?_)
  refine x_if rfl ?_ ?_
  · intro c1
    exact absurd c1 (by decide)
  · intro c1
    refine x_skip (n_then (x_seq ?_))
    refine run_row (b := b) fun a0 c0 => ?_
    refine x_region (s_val rfl (v_move rfl) (s_val rfl (v_nilCheck rfl) ?_))
    refine s_val rfl (v_fieldAddr rfl Tryz.underlying174 rfl Tryz.sizeOf172 rfl (by first | exact Nat.zero_add _ | rfl)) ?_
    refine s_val rfl (v_fieldAddr rfl Tryz.underlying172 rfl Tryz.sizeOf164 rfl (by first | exact Nat.zero_add _ | rfl)) ?_
    refine s_val rfl (v_load Tryz.isAgg164 rfl (cell_own rfl)) ?_
    refine s_do rfl (d_call Tryz.call92 rfl (values_spec W0 _ a0 its.length c0)) ?_
    rintro _ B_ ⟨bs, rfl, hB_⟩
    obtain rfl := hB_.symm
    refine s_do rfl (d_call2 Tryz.call91 rfl (sortedF_spec W0 _ bs c0 a0 its (by omega))) ?_
    rintro _ B_ ⟨l, a1, c1, rfl, hB_, hp, hS⟩
    obtain rfl := hB_.symm
    have hll := hp.length_eq
    obtain rfl : l = L := sorted_eq (hp.trans hR.perm) (fun p q h1 h2 => hS p q h1 (by omega)) hR.sort
    refine run_ent (B := rowH b (its, [rm, nw, .bool true]) :: osl 167 6 (.slice a1 l.length c1) (l.flatMap itemV) :: R) (ent_row rfl) ?_
    refine s_val rfl (v_assign rfl) (x_nil (n_then (x_seq (x_region (s_val rfl (v_assign rfl) (x_nil (n_then (x_seq (x_seq (x_region (s_val rfl (v_move rfl) (s_val rfl (v_len_slice Tryz.underlying164 rfl) (s_val rfl (v_move rfl) (x_nil (n_then (x_block ?_))))))))))))))))
    refine x_loop (fun X : Nat × Option Addr × Nat => X.1 ≤ l.length) (fun X => [(4, .slice X.2.1 X.1 X.2.2), (16, .slice a1 l.length c1), (17, .int .i64 (l.length : Nat)), (18, .int .i64 X.1)]) (fun X => osl 68 5 (.slice X.2.1 X.1 X.2.2) ((l.take X.1).flatMap keptV) :: rowH b (its, [rm, nw, .bool true]) :: osl 167 6 (.slice a1 l.length c1) (l.flatMap itemV) :: R) (fun X => l.length - X.1) (0, none, 0) ?_ ?_ ?_ ?_
    · exact Nat.zero_le _
    · repeat (first | exact sub_nil | refine sub_cons rfl ?_)
    · exact ent_osl_nil
    · intro ⟨i, a2, c2⟩ hi
      dsimp only at hi ⊢
      refine x_seq (x_region (s_val rfl (v_lss rfl rfl) (x_nil (n_then (x_seq ?_)))))
      refine x_if rfl ?_ ?_
      · intro c6
        have hi1 : i < l.length := by omega
        refine run_sla (E := 167) (sz := 6) (a := a1) (n := l.length) (c := c1) itemV l itemV_len (by decide) rfl (fun hs => ?_)
        obtain ⟨g, o, rfl, hc⟩ := hs.at_ hi1
        have htk : l.take (i + 1) = l.take i ++ [l[i]] := List.take_succ_eq_append_getElem hi1
        refine x_skip (n_then (x_seq (x_block (x_seq (x_region ?_)))))
        refine s_val rfl (v_idx Tryz.underlying164 Tryz.sizeOf167 rfl rfl rfl hi1 (by first | exact Nat.zero_add _ | rfl)) ?_
        refine s_val rfl (v_loadAgg Tryz.isAgg167 Tryz.sizeOf167 rfl hc rfl) ?_
        refine s_do rfl (d_allocA Tryz.zeroValue167) ?_
        rintro _ _ ⟨bx, rfl, rfl⟩
        refine s_do0 (d_storeAll Tryz.sizeOf167 rfl rfl rfl rfl rfl) ?_
        rintro _ _ rfl
        refine x_nil (n_then (run_pt (b := bx) (o' := cob [.int .i64 l[i].kr, .int .i64 l[i].kp, .int .i64 l[i].ep, .int .i64 l[i].ef, .int .i64 l[i].er, .int .i64 l[i].u] 167) rfl ?_))
        refine x_region (s_val rfl (v_move rfl) ?_)
        refine s_val rfl (v_fieldAddr rfl Tryz.underlying167 rfl Tryz.sizeOf68 rfl (by first | exact Nat.zero_add _ | rfl)) ?_
        refine s_val rfl (v_loadPart Tryz.isAgg68 Tryz.sizeOf68 rfl TakeL.eq rfl) ?_
        refine s_do rfl (d_sliceAgg Tryz.underlying61 Tryz.sizeOf68 Tryz.zeroValue68 rfl (elsK_cons rfl rfl elsK_nil) rfl (by decide) (by decide) (by decide)) ?_
        rintro _ _ ⟨b2, rfl, rfl⟩
        refine s_do rfl (d_append (sz := 5) (by_ := 40) (info := Tryz.t68) Tryz.underlying61 (by kernel_rfl) rfl rfl rfl rfl (by decide) rfl rfl cells_all rfl rfl (by simp only [maxLen]; omega) (by omega)) ?_
        rintro _ _ ⟨a3, c3, rfl, rfl⟩
        refine s_val rfl (v_assign rfl) (x_nil (n_block (n_then (x_region ?_))))
        refine s_val rfl (v_add rfl rfl (by first | exact w64 (by omega) | rfl)) ?_
        refine s_val rfl (v_move rfl) (x_nil (n_then ?_))
        refine inv_intro (i + 1, a3, c3) ?_ ?_ ?_ ?_
        · omega
        · omega
        · repeat (first | exact sub_nil | refine sub_cons rfl ?_)
        · dsimp only
          rw [htk, List.flatMap_append]
          show Ent _ (osl 68 5 (.slice a3 (i + 1) c3) ((l.take i).flatMap keptV ++ [[.int .i64 l[i].kr, .int .i64 l[i].kp, .int .i64 l[i].ep, .int .i64 l[i].ef, .int .i64 l[i].er]].flatten) :: _)
          exact inferInstance
      · intro c6
        refine x_exit (e_then (e_then (e_block (n_then (x_seq (x_region (s_val rfl (v_move rfl) (s_val rfl (v_assign rfl) (x_nil (n_then (x_ret (x_done (.inl rfl) (.cons (r_tmp rfl) .nil) ?_))))))))))))
        obtain rfl : i = l.length := by omega
        rw [List.take_of_length_le (Nat.le_refl _)]
        exact ⟨_, ⟨a2, c2, rfl, rfl⟩, inferInstance⟩
end Go.Proofs.YtllkdnadmmjehaaGreatDoor
namespace Go.Proofs.YtllkdnadmmjehaaGreatDoor
open Go.RowKit
set_option linter.unusedSimpArgs false
set_option linter.unusedVariables false
set_option maxRecDepth 20000
theorem shWrote_spec (W0 : World) (R : List HP) (b : Nat) (L : List Ln) (hl : L.length ≤ 1000) (page : Int) :
    Spec Tryz.prog W0 74 [.pointer (some ⟨b, 0, none⟩), .int .i64 page] (shH b L :: R)
      (fun v B => ∃ a c, v = .slice a (L.filter fun x => x.thr page).length c ∧ B = osl 64 2 (.slice a (L.filter fun x => x.thr page).length c) ((L.filter fun x => x.thr page).flatMap kyV) :: shH b (L.filter fun x => !x.thr page) :: R) := by
  refine spec_body Tryz.func74 Tryz.ntmps74 rfl rfl ?_
  refine x_seq (x_region (s_do rfl (d_box rfl rfl) ?_))
  rintro _ _ ⟨bp, rfl, rfl⟩
  refine s_val rfl (v_assign rfl) (x_nil (n_then (x_seq (x_seq (x_region (s_val rfl (v_move rfl) (s_do rfl (d_call1 Tryz.call89 rfl (shNone_spec W0 _ b L)) ?_)))))))
  rintro _ B_ ⟨rfl, hB_⟩
  obtain rfl := hB_.symm
  refine x_nil (n_then ?_)
  refine x_if rfl ?_ ?_
  · intro c1
    exact absurd c1 (by decide)
  · intro c1
    refine x_skip (n_then (x_seq (x_region (s_val rfl (v_move rfl) (s_val rfl (v_mkFunc rfl rfl) ?_)))))
    refine s_do rfl (does_ent (B := shH b L :: kH 0 (grp [pt bp (cob [.int .i64 page] 3)]) :: R) inferInstance (d_call Tryz.call103 rfl (shDrop_spec W0 _ b L hl 116 [.pointer (some ⟨bp, 0, none⟩)] _ _ (wrote1_pl W0 bp page)))) ?_
    rintro _ B_ ⟨a, c, rfl, hB_⟩
    obtain rfl := hB_.symm
    refine s_val rfl (v_assign rfl) (x_nil (n_then (x_ret (x_done (.inl rfl) (.cons (r_tmp rfl) .nil) ?_))))
    exact ⟨_, ⟨a, c, rfl, rfl⟩, inferInstance⟩
theorem shGone_spec (W0 : World) (R : List HP) (b : Nat) (L : List Ln) (hl : L.length ≤ 1000) (page : Int) :
    Spec Tryz.prog W0 68 [.pointer (some ⟨b, 0, none⟩), .int .i64 page] (shH b L :: R)
      (fun v B => ∃ a c, v = .slice a (L.filter (goneP page)).length c ∧ B = osl 64 2 (.slice a (L.filter (goneP page)).length c) ((L.filter (goneP page)).flatMap kyV) :: shH b (L.filter fun x => !goneP page x) :: R) := by
  refine spec_body Tryz.func68 Tryz.ntmps68 rfl rfl ?_
  refine x_seq (x_region (s_do rfl (d_box rfl rfl) ?_))
  rintro _ _ ⟨bp, rfl, rfl⟩
  refine s_val rfl (v_assign rfl) (x_nil (n_then (x_seq (x_seq (x_region (s_val rfl (v_move rfl) (s_do rfl (d_call1 Tryz.call89 rfl (shNone_spec W0 _ b L)) ?_)))))))
  rintro _ B_ ⟨rfl, hB_⟩
  obtain rfl := hB_.symm
  refine x_nil (n_then ?_)
  refine x_if rfl ?_ ?_
  · intro c1
    exact absurd c1 (by decide)
  · intro c1
    refine x_skip (n_then (x_seq (x_region (s_val rfl (v_move rfl) (s_val rfl (v_mkFunc rfl rfl) ?_)))))
    refine s_do rfl (does_ent (B := shH b L :: kH 0 (grp [pt bp (cob [.int .i64 page] 3)]) :: R) inferInstance (d_call Tryz.call103 rfl (shDrop_spec W0 _ b L hl 104 [.pointer (some ⟨bp, 0, none⟩)] _ _ (gone1_pl W0 bp page)))) ?_
    rintro _ B_ ⟨a, c, rfl, hB_⟩
    obtain rfl := hB_.symm
    refine s_val rfl (v_assign rfl) (x_nil (n_then (x_ret (x_done (.inl rfl) (.cons (r_tmp rfl) .nil) ?_))))
    exact ⟨_, ⟨a, c, rfl, rfl⟩, inferInstance⟩
theorem shFlush_spec (W0 : World) (R : List HP) (b : Nat) (L : List Ln) (hl : L.length ≤ 1000) :
    Spec Tryz.prog W0 70 [.pointer (some ⟨b, 0, none⟩)] (shH b L :: R)
      (fun v B => v = .int .i64 (L.length : Nat) ∧ B = shH b [] :: R) := by
  have e1 : L.filter (fun _ => true) = L := List.filter_eq_self.2 fun _ _ => rfl
  have e2 : L.filter (fun x => !(fun _ => true) x) = [] := by simp
  refine spec_body Tryz.func70 Tryz.ntmps70 rfl rfl ?_
  refine x_seq (x_region (s_val rfl (v_assign rfl) (x_nil (n_then (x_seq (x_seq (x_region (s_val rfl (v_move rfl) (s_do rfl (d_call1 Tryz.call89 rfl (shNone_spec W0 _ b L)) ?_)))))))))
  rintro _ B_ ⟨rfl, hB_⟩
  obtain rfl := hB_.symm
  refine x_nil (n_then ?_)
  refine x_if rfl ?_ ?_
  · intro c1
    exact absurd c1 (by decide)
  · intro c1
    refine x_skip (n_then (x_seq (x_region (s_val rfl (v_move rfl) (s_do rfl (does_ent (B := shH b L :: kH 0 (grp []) :: R) inferInstance (d_call Tryz.call103 rfl (shDrop_spec W0 _ b L hl 107 [] _ _ (flush1_pl W0)))) ?_)))))
    rintro _ B_ ⟨a, c, rfl, hB_⟩
    obtain rfl := hB_.symm
    rw [e1, e2]
    refine s_val rfl (v_len_slice Tryz.underlying138 rfl) (s_val rfl (v_assign rfl) (x_nil (n_then (x_ret (x_done (.inl rfl) (.cons (r_tmp rfl) .nil) ?_)))))
    exact ⟨_, ⟨rfl, rfl⟩, inferInstance⟩
def shGV (k : Key) (L : List Ln) : Value := match shGet k L with
  | none => .tuple #[.agg (entV (0, 0, 0)).toArray, .bool false]
  | some x => .tuple #[.agg (entV x.e).toArray, .bool true]
theorem shGet_none {k : Key} {L : List Ln} (h : ∀ j (hj : j < L.length), L[j].k ≠ k) : shGet k L = none := List.find?_eq_none.2 fun x hx => by
  obtain ⟨j, hj, rfl⟩ := List.getElem_of_mem hx
  simpa using h j hj
theorem shGet_at {k : Key} {L : List Ln} {i : Nat} (hi : i < L.length) (h : L[i].k = k) (hj : ∀ j (hj : j < L.length), j < i → L[j].k ≠ k) : shGet k L = some L[i] := by
  rw [shGet, List.find?_eq_some_iff_getElem]
  exact ⟨by simpa using h, i, hi, rfl, fun j h2 => by simpa using hj j (by omega) h2⟩
theorem shGet_spec (W0 : World) (R : List HP) (b : Nat) (L : List Ln) (hl : L.length ≤ 1000) (k : Key) :
    Spec Tryz.prog W0 79 [.pointer (some ⟨b, 0, none⟩), .agg (keyV k).toArray] (shH b L :: R)
      (fun v B => v = shGV k L ∧ B = shH b L :: R) := by
  refine spec_body Tryz.func79 Tryz.ntmps79 rfl rfl ?_
  refine x_seq (x_region (s_do rfl (d_boxA rfl) ?_))
  rintro _ _ ⟨b3, rfl, rfl⟩
  refine s_do rfl (d_allocA Tryz.zeroValue66) ?_
  rintro _ _ ⟨b4, rfl, rfl⟩
  refine s_val rfl (v_assign rfl) (x_nil (n_then (x_seq (x_seq (x_region (s_val rfl (v_move rfl) (s_do rfl (d_call1 Tryz.call89 rfl (shNone_spec W0 _ b L)) ?_)))))))
  rintro _ B_ ⟨rfl, hB_⟩
  obtain rfl := hB_.symm
  refine x_nil (n_then ?_)
  refine x_if rfl ?_ ?_
  · intro c1
    exact absurd c1 (by decide)
  · intro c1
    refine x_skip (n_then (x_seq (x_seq ?_)))
    refine run_sh (b := b) fun a c => ?_
    refine x_region (s_val rfl (v_move rfl) (s_val rfl (v_nilCheck rfl) ?_))
    refine s_val rfl (v_fieldAddr rfl Tryz.underlying161 rfl Tryz.sizeOf159 rfl (by first | exact Nat.zero_add _ | rfl)) ?_
    refine s_val rfl (v_load Tryz.isAgg159 rfl (cell_own rfl)) ?_
    refine s_val rfl (v_len_slice Tryz.underlying159 rfl) (s_val rfl (v_move rfl) (x_nil (n_then (x_block ?_))))
    refine x_loop (fun i : Nat => i ≤ L.length ∧ ∀ j (hj : j < L.length), j < i → L[j].k ≠ k) (fun i => [(3, .pointer (some ⟨b3, 0, none⟩)), (4, .pointer (some ⟨b4, 0, none⟩)), (14, .slice a L.length c), (15, .int .i64 (L.length : Nat)), (16, .int .i64 i)]) (fun _ => pt b (cob [.slice a L.length c, .bool true] 161) :: osl 163 7 (.slice a L.length c) (L.flatMap lnV) :: pt b3 (cob (keyV k) 64) :: pt b4 (cob (entV (0, 0, 0)) 66) :: R) (fun i => L.length - i) 0 ?_ ?_ ?_ ?_
    · exact ⟨Nat.zero_le _, fun j hj h0 => absurd h0 (Nat.not_lt_zero _)⟩
    · repeat (first | exact sub_nil | refine sub_cons rfl ?_)
    · exact inferInstance
    · intro i ⟨hi, hI⟩
      refine x_seq (x_region (s_val rfl (v_lss rfl rfl) (x_nil (n_then (x_seq ?_)))))
      refine x_if rfl ?_ ?_
      · intro c4
        refine x_skip (n_then (x_seq (x_block (x_seq ?_))))
        have hi1 : i < L.length := by omega
        refine run_sla (E := 163) (sz := 7) (a := a) (c := c) (n := L.length) lnV L lnV_len (by decide) rfl (fun hs => ?_)
        obtain ⟨g, o, hga, hc⟩ := hs.at_ hi1
        have hat := fun q => shGet_at (k := k) hi1 q hI
        have hno : L[i].k ≠ k → ∀ j (hj : j < L.length), j < i + 1 → L[j].k ≠ k := fun q j hj hji => by
          rcases Nat.lt_or_ge j i with q2 | q2
          · exact hI j hj q2
          · obtain rfl : j = i := by omega
            exact q
        obtain ⟨x, hx⟩ : ∃ x, L[i] = x := ⟨_, rfl⟩
        rw [hx] at hc hat hno
        refine x_region ?_
        refine s_val rfl (v_idxA Tryz.underlying159 Tryz.sizeOf163 rfl hga rfl rfl hi1 (by first | exact Nat.zero_add _ | rfl)) ?_
        refine s_val rfl (v_loadAgg Tryz.isAgg163 Tryz.sizeOf163 rfl hc.weak rfl) ?_
        refine s_do rfl (d_allocA Tryz.zeroValue163) ?_
        rintro _ _ ⟨bx, rfl, rfl⟩
        refine s_do0 (d_storeAll Tryz.sizeOf163 rfl rfl rfl rfl rfl) ?_
        rintro _ _ rfl
        refine x_nil (n_then (x_seq (x_region ?_)))
        refine s_val rfl (v_fieldAddr rfl Tryz.underlying163 rfl Tryz.sizeOf68 rfl (by first | exact Nat.zero_add _ | rfl)) ?_
        refine s_val rfl (v_fieldAddr rfl Tryz.underlying68 rfl Tryz.sizeOf64 rfl (by first | exact Nat.zero_add _ | rfl)) ?_
        refine s_val rfl (v_loadPart Tryz.isAgg64 Tryz.sizeOf64 rfl TakeL.eq rfl) ?_
        refine s_val rfl (v_loadAll Tryz.isAgg64 Tryz.sizeOf64 rfl rfl) ?_
        refine s_val rfl (v_eql_agg Tryz.eqGuardType64 rfl rfl (q_struct Tryz.underlying64 Tryz.stoodInHeld64 (qf_scal rfl Tryz.isAgg3 rfl rfl (q_int Tryz.underlying3) (qf_scal rfl Tryz.isAgg3 rfl rfl (q_int Tryz.underlying3) qf_nil)))) ?_
        refine x_nil (n_then ?_)
        refine x_if rfl ?_ ?_
        · intro c6
          have hk : x.k = k := by simpa [Prod.ext_iff] using c6
          refine x_seq (x_region ?_)
          refine s_val rfl (v_fieldAddr rfl Tryz.underlying163 rfl Tryz.sizeOf68 rfl (by first | exact Nat.zero_add _ | rfl)) ?_
          refine s_val rfl (v_fieldAddr rfl Tryz.underlying68 rfl Tryz.sizeOf66 rfl (by first | exact Nat.zero_add _ | rfl)) ?_
          refine s_val rfl (v_loadPart Tryz.isAgg66 Tryz.sizeOf66 rfl TakeL.eq rfl) ?_
          refine s_do0 (d_storeAll Tryz.sizeOf66 rfl rfl rfl rfl rfl) ?_
          rintro _ _ rfl
          refine s_val rfl (v_assign rfl) (x_nil (n_then (x_ret (r_block (r_then (r_then (r_block (r_then (x_done (.inl rfl) (.cons (r_all Tryz.isAgg66 Tryz.sizeOf66 rfl rfl) (.cons (r_tmp rfl) .nil)) ?_)))))))))
          rw [shGV, hat hk]
          exact ⟨_, ⟨rfl, rfl⟩, Ent.trans (B := pt b (cob [.slice a L.length c, .bool true] 161) :: osl 163 7 (.slice a L.length c) (L.flatMap lnV) :: R) inferInstance (ent_sh (b := b) rfl)⟩
        · intro c6
          have hk : x.k ≠ k := by simpa [Prod.ext_iff] using c6
          refine x_skip (n_block (n_then (x_region ?_)))
          refine s_val rfl (v_add rfl rfl (by first | exact w64 (by omega) | rfl)) ?_
          refine s_val rfl (v_move rfl) (x_nil (n_then ?_))
          refine inv_intro (i + 1) ?_ ?_ ?_ ?_
          · exact ⟨by omega, hno hk⟩
          · omega
          · repeat (first | exact sub_nil | refine sub_cons rfl ?_)
          · exact inferInstance
      · intro c4
        refine x_exit (e_then (e_then (e_block (n_then (x_seq (x_region (s_val rfl (v_build Tryz.underlying66 Tryz.zeroValue66 (sized_cons Tryz.sizeOf3 (sized_cons Tryz.sizeOf3 (sized_cons Tryz.sizeOf3 sized_nil))) fil_nil) ?_)))))))
        refine s_do0 (d_storeAll Tryz.sizeOf66 rfl rfl rfl rfl rfl) ?_
        rintro _ _ rfl
        refine s_val rfl (v_assign rfl) (x_nil (n_then (x_ret (x_done (.inl rfl) (.cons (r_all Tryz.isAgg66 Tryz.sizeOf66 rfl rfl) (.cons (r_tmp rfl) .nil)) ?_))))
        rw [shGV, shGet_none fun j hj => hI j hj (by omega)]
        exact ⟨_, ⟨rfl, rfl⟩, Ent.trans (B := pt b (cob [.slice a L.length c, .bool true] 161) :: osl 163 7 (.slice a L.length c) (L.flatMap lnV) :: R) inferInstance (ent_sh (b := b) rfl)⟩
end Go.Proofs.YtllkdnadmmjehaaGreatDoor
namespace Go.Proofs.YtllkdnadmmjehaaGreatDoor
open Go.RowKit
set_option linter.unusedSimpArgs false
set_option linter.unusedVariables false
set_option maxRecDepth 20000
@[reducible] def iI (x : Int) : List Value := [.int .i64 x]
theorem iI_len (x : Int) : (iI x).length = 1 := rfl
theorem iI_get (l : List Int) (sp : List Value) (i : Nat) (h : i < l.length) : (l.flatMap iI ++ sp)[i * 1]? = some (.int .i64 (l.getD i 0)) := by
  have := flat_get iI_len l i 0 sp h (by decide)
  rw [Nat.add_zero] at this
  rw [this]; simp [List.getD, h]
theorem iI_set (l : List Int) (sp : List Value) (i : Nat) (x : Int) (h : i < l.length) : (l.flatMap iI ++ sp).set (i * 1) (.int .i64 x) = (l.set i x).flatMap iI ++ sp :=
  flat_set1 iI_len l i 0 _ _ sp h (by decide) (by simp)
structure PFI (W0 : World) (fn : FuncId) (us cs : List Value) (C : HP) (p : Int → Bool) : Prop where
  call : ∀ args w, (callFunc fn args).run Tryz.prog w = .ok (.enter fn args) w
  spec : ∀ x R, Spec Tryz.prog W0 fn (us ++ [.int .i64 x] ++ cs) (kH 0 C :: R) (fun v B => v = .bool (p x) ∧ B = kH 0 C :: R)
def FoundI (l : List Int) (p : Int → Bool) (r : Int) : Prop := (r = -1 ∧ ∀ i, i < l.length → p (l.getD i 0) = false) ∨ ∃ i : Nat, r = (i : Int) ∧ i < l.length ∧ p (l.getD i 0) = true ∧ ∀ j, j < i → p (l.getD j 0) = false
theorem idxI_spec (W0 : World) (R : List HP) (l : List Int) (g c : Nat) (sp : List Value) (f : FuncId) (us cs : List Value) (C : HP) (p : Int → Bool) (hp : PFI W0 f us cs C p) (hN : l.length < 1000) :
    Spec Tryz.prog W0 176 [.slice (some ⟨g, 0, none⟩) l.length c, .func (.func f) us.toArray cs.toArray]
      (pt g (cob (l.flatMap iI ++ sp) 3) :: kH 0 C :: R)
      (fun v B => ∃ r, v = .int .i64 r ∧ B = pt g (cob (l.flatMap iI ++ sp) 3) :: kH 0 C :: R ∧ FoundI l p r) := by
  refine spec_body Tryz.func176 Tryz.ntmps176 rfl rfl ?_
  refine x_seq (x_region (s_val rfl (v_assign rfl) (x_nil (n_then (x_seq (x_seq (x_region (s_val rfl (v_move rfl) (s_val rfl (v_len_slice Tryz.underlying141 rfl) (s_val rfl (v_move rfl) (x_nil (n_then (x_block ?_)))))))))))))
  refine x_loop (fun X : Nat => X ≤ l.length ∧ ∀ i, i < X → p (l.getD i 0) = false) (fun X => [(0, .slice (some ⟨g, 0, none⟩) l.length c), (1, .func (.func f) us.toArray cs.toArray), (7, .int .i64 (l.length : Nat)), (8, .int .i64 X)]) (fun X => pt g (cob (l.flatMap iI ++ sp) 3) :: kH 0 C :: R) (fun X => l.length - X) 0 ?_ ?_ ?_ ?_
  · exact ⟨Nat.zero_le _, fun i h => absurd h (Nat.not_lt_zero _)⟩
  · repeat (first | exact sub_nil | refine sub_cons rfl ?_)
  · exact inferInstance
  · intro j ⟨hj, hno⟩
    refine x_seq (x_region (s_val rfl (v_lss rfl rfl) (x_nil (n_then (x_seq ?_)))))
    refine x_if rfl ?_ ?_
    · intro c2
      refine x_skip (n_then (x_seq (x_block (x_seq (x_region (s_val rfl (v_move rfl) (s_val rfl (v_assign rfl) (x_nil (n_then (x_seq (x_region (s_val rfl (v_move rfl) (s_val rfl (v_move rfl) (s_val rfl (v_move rfl) ?_))))))))))))))
      refine s_val rfl (v_idx Tryz.underlying141 Tryz.sizeOf3 rfl rfl rfl (by omega) (by first | exact Nat.zero_add _ | rfl)) ?_
      refine s_val rfl (v_load Tryz.isAgg3 rfl (cell_own (iI_get l sp j (by omega)))) ?_
      refine s_do rfl (d_callv1 (us := us) (cs := cs) rfl hp.call rfl (hp.spec (l.getD j 0) _)) ?_
      rintro _ B_ ⟨rfl, hB_⟩
      obtain rfl := hB_.symm
      refine x_nil (n_then ?_)
      refine x_if rfl ?_ ?_
      · intro c4
        refine x_seq (x_region (s_val rfl (v_move rfl) (s_val rfl (v_assign rfl) (x_nil (n_then (x_ret (r_block (r_then (r_then (r_block (r_then (x_done (.inl rfl) (.cons (r_tmp rfl) .nil) ?_))))))))))))
        exact ⟨_, ⟨_, rfl, rfl, .inr ⟨j, rfl, by omega, c4, hno⟩⟩, inferInstance⟩
      · intro c4
        refine x_skip (n_block (n_then (x_region ?_)))
        refine s_val rfl (v_add rfl rfl (by first | exact w64 (by omega) | rfl)) ?_
        refine s_val rfl (v_move rfl) (x_nil (n_then ?_))
        refine inv_intro (j + 1) ?_ ?_ ?_ ?_
        · refine ⟨by omega, fun i hi => ?_⟩
          by_cases e : i = j
          · subst e; simpa using c4
          · exact hno i (by omega)
        · omega
        · repeat (first | exact sub_nil | refine sub_cons rfl ?_)
        · exact inferInstance
    · intro c2
      refine x_exit (e_then (e_then (e_block (n_then (x_seq (x_region (s_val rfl (v_assign rfl) (x_nil (n_then (x_ret (x_done (.inl rfl) (.cons (r_tmp rfl) .nil) ?_)))))))))))
      exact ⟨_, ⟨-1, rfl, rfl, .inl ⟨rfl, fun i hi => hno i (by omega)⟩⟩, inferInstance⟩
def keepI (p : Int → Bool) (l : List Int) : List Int := l.filter (fun x => !p x)
theorem keepI_none {p : Int → Bool} {l : List Int} (h : ∀ i, i < l.length → p (l.getD i 0) = false) : keepI p l = l := List.filter_eq_self.2 fun x hx => by
  obtain ⟨i, hi, rfl⟩ := List.mem_iff_getElem.1 hx
  have := h i hi
  simpa [List.getD, hi] using this
theorem keepI_take {p : Int → Bool} {l : List Int} {j : Nat} (h : j < l.length) : keepI p (l.take (j + 1)) = keepI p (l.take j) ++ (if p (l.getD j 0) then [] else [l.getD j 0]) := by
  rw [List.take_succ_eq_append_getElem h, keepI, List.filter_append, show l.getD j 0 = l[j] by simp [List.getD, h]]
  cases hp : p l[j] <;> simp [keepI, hp]
structure DelN (p : Int → Bool) (its l : List Int) (i j : Nat) : Prop where
  len : l.length = its.length
  ij : i < j
  jl : j ≤ its.length
  front : l.take i = keepI p (its.take j)
  back : ∀ k, j ≤ k → l.getD k 0 = its.getD k 0
theorem keepI_len {p : Int → Bool} {l : List Int} {i : Nat} (h : i < l.length) (hp : p (l.getD i 0) = true) (hno : ∀ j, j < i → p (l.getD j 0) = false) : keepI p (l.take (i + 1)) = l.take i := by
  rw [keepI_take h, hp, if_pos rfl, List.append_nil]
  refine keepI_none fun j hj => ?_
  rw [List.length_take] at hj
  have := hno j (by omega)
  simpa [List.getD, List.getElem?_take, show j < i by omega] using this
theorem DelN.skip {p : Int → Bool} {its l : List Int} {i j : Nat} (h : DelN p its l i j) (hj : j < its.length) (hp : p (l.getD j 0) = true) : DelN p its l i (j + 1) := by
  refine ⟨h.len, by have := h.ij; omega, by omega, ?_, fun k hk => h.back k (by omega)⟩
  rw [h.back j (Nat.le_refl _)] at hp
  rw [keepI_take hj, hp, if_pos rfl, List.append_nil]; exact h.front
theorem DelN.move {p : Int → Bool} {its l : List Int} {i j : Nat} (h : DelN p its l i j) (hj : j < its.length) (hp : p (l.getD j 0) = false) : DelN p its (l.set i (l.getD j 0)) (i + 1) (j + 1) := by
  have hij := h.ij
  have hl := h.len
  have hb := h.back j (Nat.le_refl _)
  rw [hb] at hp ⊢
  refine ⟨by rw [List.length_set]; exact hl, by omega, by omega, ?_, fun k hk => ?_⟩
  · rw [keepI_take hj, hp, if_neg (by decide), ← h.front, List.take_succ_eq_append_getElem (by rw [List.length_set]; omega), List.getElem_set_self, List.take_set_of_le (Nat.le_refl _)]
  · rw [← h.back k (by omega)]
    simp only [List.getD_eq_getElem?_getD]
    rw [List.getElem?_set_ne (by omega)]
theorem delI_spec (W0 : World) (R : List HP) (its : List Int) (g c : Nat) (sp : List Value) (f : FuncId) (us cs : List Value) (C : HP) (p : Int → Bool) (hp : PFI W0 f us cs C p) (hN : its.length < 1000) (h2 : its.length ≤ c) (h3 : c ≤ maxLen) (h5 : (its.flatMap iI ++ sp).length = c * 1) :
    Spec Tryz.prog W0 158 [.slice (some ⟨g, 0, none⟩) its.length c, .func (.func f) us.toArray cs.toArray]
      (pt g (cob (its.flatMap iI ++ sp) 3) :: kH 0 C :: R)
      (fun v B => ∃ a' c', v = .slice a' (keepI p its).length c' ∧ B = osl 3 1 (.slice a' (keepI p its).length c') ((keepI p its).flatMap iI) :: kH 0 C :: R) := by
  refine spec_body Tryz.func158 Tryz.ntmps158 rfl rfl ?_
  refine x_seq (x_region (s_val rfl (v_assign rfl) (x_nil (n_then (x_seq (x_region (s_val rfl (v_move rfl) (s_val rfl (v_move rfl) (s_do rfl (d_call2 Tryz.call176 rfl (idxI_spec W0 _ its g c sp f us cs C p hp hN)) ?_)))))))))
  rintro _ B_ ⟨r, rfl, hB_, hf⟩
  obtain rfl := hB_.symm
  refine s_val rfl (v_assign rfl) (x_nil (n_then (x_seq (x_seq (x_region (s_val rfl (v_move rfl) (s_val rfl (v_eql rfl rfl) (x_nil (n_then ?_)))))))))
  refine x_if rfl ?_ ?_
  · intro c2
    refine x_seq (x_region (s_val rfl (v_move rfl) (s_val rfl (v_assign rfl) (x_nil (n_then (x_ret (r_then (x_done (.inl rfl) (.cons (r_tmp rfl) .nil) ?_))))))))
    have hno : ∀ i, i < its.length → p (its.getD i 0) = false := by
      rcases hf with ⟨_, h⟩ | ⟨i, h, _⟩
      · exact h
      · omega
    rw [keepI_none hno]
    exact ⟨_, ⟨_, c, rfl, rfl⟩, ent_osl h2 h3 (flat_len iI_len its) h5⟩
  · intro c2
    obtain ⟨i, rfl, hi, hpi, hno⟩ : ∃ i : Nat, r = (i : Int) ∧ i < its.length ∧ p (its.getD i 0) = true ∧ ∀ j, j < i → p (its.getD j 0) = false := by
      rcases hf with ⟨h, _⟩ | h
      · omega
      · exact h
    refine x_skip (n_then (x_seq (x_seq (x_region (s_val rfl (v_move rfl) ?_)))))
    refine s_val rfl (v_add rfl rfl (by rw [w64 (by omega)]; omega : IntKind.wrap .i64 ((i : Int) + 1) = ((i + 1 : Nat) : Int))) ?_
    refine s_val rfl (v_assign rfl) (x_nil (n_then (x_block ?_)))
    refine x_loop (fun X : List Int × Nat × Nat => DelN p its X.1 X.2.1 X.2.2) (fun X => [(0, .slice (some ⟨g, 0, none⟩) its.length c), (1, .func (.func f) us.toArray cs.toArray), (5, .int .i64 X.2.1), (6, .int .i64 X.2.2)]) (fun X => pt g (cob (X.1.flatMap iI ++ sp) 3) :: kH 0 C :: R) (fun X => its.length - X.2.2) (its, i, i + 1) ?_ ?_ ?_ ?_
    · exact ⟨rfl, Nat.lt_succ_self _, by show i + 1 ≤ its.length; omega, (keepI_len hi hpi hno).symm, fun _ _ => rfl⟩
    · repeat (first | exact sub_nil | refine sub_cons rfl ?_)
    · exact inferInstance
    · intro ⟨l, m, j⟩ hD
      dsimp only at hD ⊢
      have hl := hD.len
      have hmj := hD.ij
      have hjl := hD.jl
      refine x_seq (x_seq (x_region (s_val rfl (v_move rfl) (s_val rfl (v_move rfl) (s_val rfl (v_len_slice Tryz.underlying141 rfl) (s_val rfl (v_lss rfl rfl) (x_nil (n_then ?_))))))))
      refine x_if rfl ?_ ?_
      · intro c5
        refine x_skip (n_then ?_)
        refine x_cut (fun Z : List Int × Nat => DelN p its Z.1 Z.2 (j + 1)) (fun Z => [(0, .slice (some ⟨g, 0, none⟩) its.length c), (1, .func (.func f) us.toArray cs.toArray), (5, .int .i64 Z.2), (6, .int .i64 j)]) (fun Z => pt g (cob (Z.1.flatMap iI ++ sp) 3) :: kH 0 C :: R) ?_ ?_
        · skip
          refine x_block (x_seq (x_region (s_val rfl (v_move rfl) (s_val rfl (v_move rfl) ?_))))
          refine s_val rfl (v_idx Tryz.underlying141 Tryz.sizeOf3 rfl rfl rfl (by omega) (by first | exact Nat.zero_add _ | rfl)) ?_
          refine s_val rfl (v_load Tryz.isAgg3 rfl (cell_own (iI_get l sp j (by omega)))) ?_
          refine s_val rfl (v_assign rfl) (x_nil (n_then (x_seq (x_region (s_val rfl (v_move rfl) (s_val rfl (v_move rfl) (s_do rfl (d_callv1 (us := us) (cs := cs) rfl hp.call rfl (hp.spec (l.getD j 0) _)) ?_)))))))
          rintro _ B_ ⟨rfl, hB_⟩
          obtain rfl := hB_.symm
          refine s_val rfl (v_not rfl) (x_nil (n_then ?_))
          refine x_if rfl ?_ ?_
          · intro c8
            have hpj : p (l.getD j 0) = false := by simpa using c8
            refine x_seq (x_region (s_val rfl (v_move rfl) (s_val rfl (v_move rfl) (s_val rfl (v_move rfl) ?_))))
            refine s_val rfl (v_idx Tryz.underlying141 Tryz.sizeOf3 rfl rfl rfl (by omega) (by first | exact Nat.zero_add _ | rfl)) ?_
            refine s_do0 (d_store Tryz.sizeOf3 rfl rfl rfl (by rw [List.length_append, flat_len iI_len]; omega) (iI_set l sp m (l.getD j 0) (by omega))) ?_
            rintro _ _ rfl
            refine x_nil (n_then (x_region (s_val rfl (v_move rfl) ?_)))
            refine s_val rfl (v_add rfl rfl (by rw [w64 (by omega)]; omega : IntKind.wrap .i64 ((m : Int) + 1) = ((m + 1 : Nat) : Int))) ?_
            refine s_val rfl (v_assign rfl) (x_nil (n_block (n_then ?_)))
            refine mid_intro (l.set m (l.getD j 0), m + 1) ?_ ?_ ?_
            · exact hD.move (by omega) hpj
            · repeat (first | exact sub_nil | refine sub_cons rfl ?_)
            · exact inferInstance
          · intro c8
            have hpj : p (l.getD j 0) = true := by simpa using c8
            refine x_skip (n_block (n_then ?_))
            refine mid_intro (l, m) ?_ ?_ ?_
            · exact hD.skip (by omega) hpj
            · repeat (first | exact sub_nil | refine sub_cons rfl ?_)
            · exact inferInstance
        · intro ⟨l2, m2⟩ hD2
          refine x_region (s_val rfl (v_move rfl) ?_)
          refine s_val rfl (v_add rfl rfl (by rw [w64 (by omega)]; omega : IntKind.wrap .i64 ((j : Int) + 1) = ((j + 1 : Nat) : Int))) ?_
          refine s_val rfl (v_assign rfl) (x_nil (n_then ?_))
          refine inv_intro (l2, m2, j + 1) ?_ ?_ ?_ ?_
          · exact hD2
          · show its.length - (j + 1) < its.length - j; omega
          · repeat (first | exact sub_nil | refine sub_cons rfl ?_)
          · exact inferInstance
      · intro c5
        refine x_exit (e_then (e_then (e_block (n_then (x_seq ?_)))))
        obtain rfl : j = its.length := by omega
        have hfr := hD.front
        rw [List.take_of_length_le (Nat.le_refl _)] at hfr
        have hk : (keepI p its).length = m := by rw [← hfr, List.length_take]; omega
        refine x_region (s_val rfl (v_move rfl) (s_val rfl (v_move rfl) ?_))
        refine s_val rfl (v_sliceL Tryz.underlying141 Tryz.sizeOf3 rfl rfl rfl (by omega) (by omega) (Nat.zero_add _)) ?_
        refine s_do0 (d_clear Tryz.underlying141 Tryz.zeroValue3 (by simp [Value.cells, Value.oneCell']) rfl (by omega) (by rw [List.length_append, flat_len iI_len]; show m * 1 + (its.length - m) * 1 ≤ _; omega)) ?_
        rintro _ B_ ⟨vs, hvs, rfl, hB_⟩
        obtain rfl := hB_.symm
        replace hvs : vs.length = (its.length - m) * 1 := hvs
        have hset : setR (l.flatMap iI ++ sp) (m * 1) vs = (keepI p its).flatMap iI ++ (vs ++ sp) := by
          rw [setR_eq _ _ _ (by rw [List.length_append, flat_len iI_len]; omega), flat_take iI_len l m sp (by omega), hfr, show m * 1 + vs.length = l.length * 1 by omega, flat_drop iI_len l l.length sp (Nat.le_refl _)]
          simp
        rw [hset]
        refine x_nil (n_then (x_seq (x_region (s_val rfl (v_move rfl) (s_val rfl (v_move rfl) ?_)))))
        refine s_val rfl (v_sliceH Tryz.underlying141 Tryz.sizeOf3 rfl rfl rfl (by omega)) ?_
        refine s_val rfl (v_assign rfl) (x_nil (n_then (x_ret (x_done (.inl rfl) (.cons (r_tmp rfl) .nil) ?_))))
        rw [hk]
        exact ⟨_, ⟨_, _, rfl, rfl⟩, ent_osl (by omega) h3 (by rw [flat_len iI_len, hk]) (by rw [← h5]; simp only [List.length_append, flat_len iI_len, hk, hvs]; omega)⟩
end Go.Proofs.YtllkdnadmmjehaaGreatDoor
namespace Go.Proofs.YtllkdnadmmjehaaGreatDoor
open Go.RowKit
set_option linter.unusedSimpArgs false
set_option linter.unusedVariables false
set_option maxRecDepth 20000
theorem compact2_spec (W0 : World) (R : List HP) (g : Nat) (x y : Int) : Spec Tryz.prog W0 159 [.slice (some ⟨g, 0, none⟩) 2 2] (pt g (cob [.int .i64 x, .int .i64 y] 3) :: R)
    (fun v B => ∃ (l : List Int) (sp : List Value), v = .slice (some ⟨g, 0, none⟩) l.length 2 ∧ l = (if x = y then [x] else [x, y]) ∧ (l.flatMap iI ++ sp).length = 2 ∧ B = pt g (cob (l.flatMap iI ++ sp) 3) :: R) := by
  refine spec_body Tryz.func159 Tryz.ntmps159 rfl rfl ?_
  refine x_seq (x_region (s_val rfl (v_assign rfl) (x_nil (n_then (x_seq (x_seq (x_region (s_val rfl (v_move rfl) (s_val rfl (v_len_slice Tryz.underlying141 rfl) (s_val rfl (v_lss rfl rfl) (x_nil (n_then ?_))))))))))))
  refine x_if rfl ?_ ?_
  · intro c1
    exact absurd c1 (by decide)
  · intro c1
    refine x_skip (n_then (x_seq (x_seq (x_region (s_val rfl (v_assign rfl) (x_nil (n_then (x_block ?_))))))))
    refine x_loop (fun k : Nat => k = 1 ∨ (k = 2 ∧ x ≠ y)) (fun k => [(0, .slice (some ⟨g, 0, none⟩) 2 2), (3, .int .i64 k)]) (fun k => pt g (cob [.int .i64 x, .int .i64 y] 3) :: R) (fun k => 2 - k) 1 ?_ ?_ ?_ ?_
    · exact .inl rfl
    · repeat (first | exact sub_nil | refine sub_cons rfl ?_)
    · exact inferInstance
    · intro k hk
      refine x_seq (x_seq (x_region (s_val rfl (v_move rfl) (s_val rfl (v_move rfl) (s_val rfl (v_len_slice Tryz.underlying141 rfl) (s_val rfl (v_lss rfl rfl) (x_nil (n_then ?_))))))))
      refine x_if rfl ?_ ?_
      · intro c4
        refine x_skip (n_then (x_seq (x_block (x_seq ?_))))
        obtain rfl : k = 1 := by
          rcases hk with h | h
          · exact h
          · omega
        refine x_draw [(g, 0, _)] 10 mixed rfl (sc_own sc_end) (fun hS => ?_)
        refine d_take 0 rfl rfl (by kernel_rfl) (by kernel_rfl) (by kernel_rfl) rfl hS (v_move rfl) ?_
        refine d_take 1 rfl rfl (by kernel_rfl) (by kernel_rfl) (by kernel_rfl) rfl hS (v_move rfl) ?_
        refine d_take 2 rfl rfl (by kernel_rfl) (by kernel_rfl) (by kernel_rfl) rfl hS (v_idx Tryz.underlying141 Tryz.sizeOf3 rfl rfl (j := 1) rfl (by decide) (by first | exact Nat.zero_add _ | rfl)) ?_
        refine d_take 3 rfl rfl (by kernel_rfl) (by kernel_rfl) (by kernel_rfl) rfl hS (v_load Tryz.isAgg3 rfl (cell_sc0 (k := 0) rfl rfl)) ?_
        refine d_take 4 rfl rfl (by kernel_rfl) (by kernel_rfl) (by kernel_rfl) rfl hS (v_move rfl) ?_
        refine d_take 5 rfl rfl (by kernel_rfl) (by kernel_rfl) (by kernel_rfl) rfl hS (v_move rfl) ?_
        refine d_take 6 rfl rfl (by kernel_rfl) (by kernel_rfl) (by kernel_rfl) rfl hS (v_sub rfl rfl (by first | exact w64 (by omega) | rfl)) ?_
        refine d_take 7 rfl rfl (by kernel_rfl) (by kernel_rfl) (by kernel_rfl) rfl hS (v_idx Tryz.underlying141 Tryz.sizeOf3 rfl rfl (j := 0) rfl (by decide) (by first | exact Nat.zero_add _ | rfl)) ?_
        refine d_take 8 rfl rfl (by kernel_rfl) (by kernel_rfl) (by kernel_rfl) rfl hS (v_load Tryz.isAgg3 rfl (cell_sc0 (k := 0) rfl rfl)) ?_
        refine d_take 9 rfl rfl (by kernel_rfl) (by kernel_rfl) (by kernel_rfl) rfl hS (v_eql rfl rfl) ?_
        refine d_done (by kernel_rfl) ?_; clear hS
        refine n_then ?_
        refine x_if rfl ?_ ?_
        · intro c6
          refine x_seq (x_region (s_val rfl (v_move rfl) (s_val rfl (v_move rfl) ?_)))
          refine s_val rfl (v_sliceL Tryz.underlying141 Tryz.sizeOf3 rfl rfl (i := 1) rfl (by decide) (by decide) (Nat.zero_add _)) ?_
          refine s_val rfl (v_assign rfl) (x_nil (n_then (x_seq (x_seq (x_region (s_val rfl (v_assign rfl) (x_nil (n_then (x_block ?_)))))))))
          refine x_loop (fun j : Nat => j = 1) (fun j => [(0, .slice (some ⟨g, 0, none⟩) 2 2), (3, .int .i64 1), (4, .slice (some ⟨g, 1, none⟩) 1 1), (5, .int .i64 j)]) (fun j => pt g (cob [.int .i64 x, .int .i64 y] 3) :: R) (fun j => 2 - j) 1 ?_ ?_ ?_ ?_
          · rfl
          · repeat (first | exact sub_nil | refine sub_cons rfl ?_)
          · exact inferInstance
          · intro j hj
            refine x_seq (x_seq (x_region (s_val rfl (v_move rfl) (s_val rfl (v_move rfl) (s_val rfl (v_len_slice Tryz.underlying141 rfl) (s_val rfl (v_lss rfl rfl) (x_nil (n_then ?_))))))))
            refine x_if rfl ?_ ?_
            · intro c9
              omega
            · intro c9
              refine x_exit (e_then (e_then (e_block (n_then (x_seq (x_region (s_val rfl (v_move rfl) (s_val rfl (v_move rfl) ?_))))))))
              refine s_val rfl (v_sliceL Tryz.underlying141 Tryz.sizeOf3 rfl rfl (i := 1) rfl (by decide) (by decide) (Nat.zero_add _)) ?_
              refine s_do0 (d_clear Tryz.underlying141 Tryz.zeroValue3 (by simp [Value.cells, Value.oneCell']) rfl (by decide) (Nat.le_of_ble_eq_true rfl)) ?_
              rintro _ B_ ⟨vs, hvs, rfl, hB_⟩
              obtain rfl := hB_.symm
              obtain ⟨v, rfl⟩ : ∃ v, vs = [v] := by
                rcases vs with _ | ⟨v, _ | ⟨w, vs⟩⟩
                · exact absurd hvs (by decide)
                · exact ⟨v, rfl⟩
                · exact absurd hvs (by simp [Value.cells])
              refine x_nil (n_then (x_seq (x_region (s_val rfl (v_move rfl) (s_val rfl (v_move rfl) ?_)))))
              refine s_val rfl (v_sliceH Tryz.underlying141 Tryz.sizeOf3 rfl rfl (h := 1) rfl (by decide)) ?_
              refine s_val rfl (v_assign rfl) (x_nil (n_then (x_ret (r_block (r_then (r_then (r_block (r_then (x_done (.inl rfl) (.cons (r_tmp rfl) .nil) ?_)))))))))
              have hxy : x = y := by omega
              exact ⟨_, ⟨[x], [v], rfl, by rw [if_pos hxy], rfl, rfl⟩, (inferInstance : Ent (pt g (cob [.int .i64 x, v] 3) :: R) (pt g (cob [.int .i64 x, v] 3) :: R))⟩
        · intro c6
          refine x_skip (n_block (n_then (x_region (s_val rfl (v_move rfl) ?_))))
          refine s_val rfl (v_add rfl rfl (by rw [w64 (by omega)]; rfl : IntKind.wrap .i64 (1 + 1) = ((2 : Nat) : Int))) ?_
          refine s_val rfl (v_assign rfl) (x_nil (n_then ?_))
          refine inv_intro 2 ?_ ?_ ?_ ?_
          · exact .inr ⟨rfl, by omega⟩
          · omega
          · repeat (first | exact sub_nil | refine sub_cons rfl ?_)
          · exact inferInstance
      · intro c4
        refine x_exit (e_then (e_then (e_block (n_then (x_seq (x_region (s_val rfl (v_move rfl) (s_val rfl (v_assign rfl) (x_nil (n_then (x_ret (x_done (.inl rfl) (.cons (r_tmp rfl) .nil) ?_))))))))))))
        have hxy : x ≠ y := by
          rcases hk with h | h
          · omega
          · exact h.2
        exact ⟨_, ⟨[x, y], [], rfl, by rw [if_neg hxy], rfl, rfl⟩, (inferInstance : Ent (pt g (cob [.int .i64 x, .int .i64 y] 3) :: R) (pt g (cob [.int .i64 x, .int .i64 y] 3) :: R))⟩
theorem table_pf (W0 : World) (b : Nat) (L : List Ln) (hl : L.length ≤ 1000) : PFI W0 55 [.pointer (some ⟨b, 0, none⟩)] [] (grp [shH b L]) (shT L) := ⟨Tryz.call55, fun x R => by
  refine spec_kgrp ?_
  simp only [List.cons_append, List.nil_append]
  refine spec_post (shTable_spec W0 R b L hl x) fun v B hB => ?_
  obtain ⟨rfl, rfl⟩ := hB
  exact ⟨_, ⟨rfl, rfl⟩, inferInstance⟩⟩
theorem shFresh_spec (W0 : World) (R : List HP) (b : Nat) (L : List Ln) (hl : L.length ≤ 1000) (r l : Int) :
    Spec Tryz.prog W0 147 [.pointer (some ⟨b, 0, none⟩), .int .i64 r, .int .i64 l] (shH b L :: R)
      (fun v B => ∃ a c, v = .slice a (shFr L r l).length c ∧ B = osl 3 1 (.slice a (shFr L r l).length c) ((shFr L r l).flatMap iI) :: shH b L :: R) := by
  refine spec_body Tryz.func147 Tryz.ntmps147 rfl rfl ?_
  refine x_seq (x_region (s_val rfl (v_assign rfl) (x_nil (n_then (x_seq (x_region (s_val rfl (v_move rfl) (s_val rfl (v_move rfl) ?_))))))))
  refine s_val rfl (v_min rfl rfl (r := min r l) (by split <;> omega)) ?_
  refine s_val rfl (v_move rfl) (s_val rfl (v_move rfl) ?_)
  refine s_val rfl (v_max rfl rfl (r := max r l) (by split <;> omega)) ?_
  refine s_do rfl (d_sliceLit Tryz.underlying141 Tryz.sizeOf3 Tryz.zeroValue3 rfl rfl rfl rfl rfl (by decide) (by decide)) ?_
  rintro _ _ ⟨g, rfl, rfl⟩
  refine s_val rfl (v_assign rfl) (x_nil (n_then (x_seq (x_region (s_val rfl (v_move rfl) (s_do rfl (d_call1 Tryz.call159 rfl (compact2_spec W0 _ g (min r l) (max r l))) ?_))))))
  rintro _ B_ ⟨xs, sp, rfl, hxs, hlen, hB_⟩
  obtain rfl := hB_.symm
  have hfr : keepI (shT L) xs = shFr L r l := by
    rw [hxs, shFr, keepI]
    congr 1
    by_cases q : r = l
    · subst q; simp
    · rw [if_neg q, if_neg (by omega)]
  have h2 : xs.length ≤ 2 := by rw [hxs]; split <;> simp
  refine s_val rfl (v_move rfl) (s_val rfl (v_mkFunc rfl rfl) ?_)
  refine s_do rfl (does_ent (B := pt g (cob (xs.flatMap iI ++ sp) 3) :: kH 0 (grp [shH b L]) :: R) inferInstance (d_call Tryz.call158 rfl (delI_spec W0 R xs g 2 sp 55 [.pointer (some ⟨b, 0, none⟩)] [] _ _ (table_pf W0 b L hl) (by omega) h2 (by simp only [maxLen]; omega) hlen))) ?_
  rintro _ B_ ⟨a, c, rfl, hB_⟩
  obtain rfl := hB_.symm
  rw [hfr]
  refine run_kgrp ?_
  simp only [List.cons_append, List.nil_append]
  refine s_val rfl (v_assign rfl) (x_nil (n_then (x_ret (x_done (.inl rfl) (.cons (r_tmp rfl) .nil) ?_))))
  exact ⟨_, ⟨a, c, rfl, rfl⟩, inferInstance⟩
@[reducible] def lkV (x : Ln) : List Value := [.int .i64 x.k.1, .int .i64 x.k.2, .int .i64 x.e.1, .int .i64 x.e.2.1, .int .i64 x.e.2.2]
theorem shList_spec (W0 : World) (R : List HP) (b : Nat) (L : List Ln) (hl : L.length ≤ 1000) :
    Spec Tryz.prog W0 51 [.pointer (some ⟨b, 0, none⟩)] (shH b L :: R)
      (fun v B => ∃ a c, v = .slice a L.length c ∧ B = osl 68 5 (.slice a L.length c) (L.flatMap lkV) :: shH b L :: R) := by
  refine spec_body Tryz.func51 Tryz.ntmps51 rfl rfl ?_
  refine x_seq (x_region (s_val rfl (v_assign rfl) (x_nil (n_then (x_seq (x_seq (x_region (s_val rfl (v_move rfl) (s_do rfl (d_call1 Tryz.call89 rfl (shNone_spec W0 _ b L)) ?_)))))))))
  rintro _ B_ ⟨rfl, hB_⟩
  obtain rfl := hB_.symm
  refine x_nil (n_then ?_)
  refine x_if rfl ?_ ?_
  · intro c1
    exact absurd c1 (by decide)
  · intro c1
    refine x_skip (n_then (x_seq (x_region (s_val rfl (v_assign rfl) (x_nil (n_then (x_seq (x_seq ?_))))))))
    refine run_sh (b := b) fun a c => ?_
    refine x_region (s_val rfl (v_move rfl) (s_val rfl (v_nilCheck rfl) ?_))
    refine s_val rfl (v_fieldAddr rfl Tryz.underlying161 rfl Tryz.sizeOf159 rfl (by first | exact Nat.zero_add _ | rfl)) ?_
    refine s_val rfl (v_load Tryz.isAgg159 rfl (cell_own rfl)) ?_
    refine s_val rfl (v_len_slice Tryz.underlying159 rfl) (s_val rfl (v_move rfl) (x_nil (n_then (x_block ?_))))
    refine x_loop (fun X : Nat × Option Addr × Nat => X.1 ≤ L.length) (fun X => [(3, .slice X.2.1 X.1 X.2.2), (11, .slice a L.length c), (12, .int .i64 (L.length : Nat)), (13, .int .i64 X.1)]) (fun X => osl 68 5 (.slice X.2.1 X.1 X.2.2) ((L.take X.1).flatMap lkV) :: pt b (cob [.slice a L.length c, .bool true] 161) :: osl 163 7 (.slice a L.length c) (L.flatMap lnV) :: R) (fun X => L.length - X.1) (0, none, 0) ?_ ?_ ?_ ?_
    · exact Nat.zero_le _
    · repeat (first | exact sub_nil | refine sub_cons rfl ?_)
    · exact ent_osl_nil
    · intro ⟨i, a0, c0⟩ hi
      dsimp only at hi ⊢
      refine x_seq (x_region (s_val rfl (v_lss rfl rfl) (x_nil (n_then (x_seq ?_)))))
      refine x_if rfl ?_ ?_
      · intro c5
        refine x_skip (n_then (x_seq (x_block (x_seq ?_))))
        have hi1 : i < L.length := by omega
        refine run_sla (E := 163) (sz := 7) (a := a) (c := c) (n := L.length) lnV L lnV_len (by decide) rfl (fun hs => ?_)
        obtain ⟨g, o, hga, hc⟩ := hs.at_ hi1
        obtain ⟨x, hx⟩ : ∃ x, L[i] = x := ⟨_, rfl⟩
        have htk : L.take (i + 1) = L.take i ++ [x] := by rw [List.take_succ_eq_append_getElem hi1, hx]
        rw [hx] at hc
        refine x_region ?_
        refine s_val rfl (v_idxA Tryz.underlying159 Tryz.sizeOf163 rfl hga rfl rfl hi1 (by first | exact Nat.zero_add _ | rfl)) ?_
        refine s_val rfl (v_loadAgg Tryz.isAgg163 Tryz.sizeOf163 rfl hc.weak rfl) ?_
        refine s_do rfl (d_allocA Tryz.zeroValue163) ?_
        rintro _ _ ⟨bx, rfl, rfl⟩
        refine s_do0 (d_storeAll Tryz.sizeOf163 rfl rfl rfl rfl rfl) ?_
        rintro _ _ rfl
        refine x_nil (n_then (x_region (s_val rfl (v_move rfl) ?_)))
        refine s_val rfl (v_fieldAddr rfl Tryz.underlying163 rfl Tryz.sizeOf68 rfl (by first | exact Nat.zero_add _ | rfl)) ?_
        refine s_val rfl (v_loadPart Tryz.isAgg68 Tryz.sizeOf68 rfl TakeL.eq rfl) ?_
        refine s_do rfl (d_sliceAgg Tryz.underlying61 Tryz.sizeOf68 Tryz.zeroValue68 rfl (elsK_cons rfl rfl elsK_nil) rfl (by decide) (by decide) (by decide)) ?_
        rintro _ _ ⟨bb, rfl, rfl⟩
        rw [show ([lkV x] : List (List Value)).flatten = lkV x from List.append_nil _]
        refine s_do rfl (d_append (sz := 5) (by_ := 40) (info := Tryz.t68) Tryz.underlying61 (by kernel_rfl) rfl rfl rfl rfl (by decide) rfl rfl cells_all rfl rfl (by simp only [maxLen]; omega) (by omega)) ?_
        rintro _ _ ⟨a3, c3, rfl, rfl⟩
        refine s_val rfl (v_assign rfl) (x_nil (n_block (n_then (x_region ?_))))
        refine s_val rfl (v_add rfl rfl (by first | exact w64 (by omega) | rfl)) ?_
        refine s_val rfl (v_move rfl) (x_nil (n_then ?_))
        refine inv_intro (i + 1, a3, c3) ?_ ?_ ?_ ?_
        · omega
        · omega
        · repeat (first | exact sub_nil | refine sub_cons rfl ?_)
        · dsimp only
          rw [htk, List.flatMap_append, List.flatMap_singleton]
          exact inferInstance
      · intro c5
        refine x_exit (e_then (e_then (e_block (n_then (x_seq (x_region (s_val rfl (v_move rfl) (s_val rfl (v_assign rfl) (x_nil (n_then (x_ret (x_done (.inl rfl) (.cons (r_tmp rfl) .nil) ?_))))))))))))
        obtain rfl : i = L.length := by omega
        rw [List.take_length]
        exact ⟨_, ⟨a0, c0, rfl, rfl⟩, Ent.cons (ent_sh (b := b) rfl)⟩
end Go.Proofs.YtllkdnadmmjehaaGreatDoor
namespace Go.Proofs.YtllkdnadmmjehaaGreatDoor
open Go.RowKit
set_option linter.unusedSimpArgs false
set_option linter.unusedVariables false
set_option maxRecDepth 20000
theorem ln_row (L : List Ln) (sp : List Value) (i : Nat) (hi : i < L.length) : ((L.flatMap lnV ++ sp).drop (i * 7)).take 7 = lnV L[i] := flat_row lnV_len L i sp hi
theorem ln_get (L : List Ln) (sp : List Value) (i j : Nat) (hi : i < L.length) (hj : j < 7) : (L.flatMap lnV ++ sp)[i * 7 + j]? = (lnV L[i])[j]? := flat_get lnV_len L i j sp hi hj
theorem ln_setE (L : List Ln) (sp : List Value) (i : Nat) (hi : i < L.length) : (L.flatMap lnV ++ sp).set (i * 7 + 4) (.int .i64 (noW L[i].e.2.2)) = (L.set i L[i].nar).flatMap lnV ++ sp :=
  flat_set1 lnV_len L i 4 _ _ sp hi (by decide) rfl
theorem sla_ln {W0 : World} {A R : List HP} {g : Nat} {L : List Ln} {sp : List Value} [h : Tk pt g A (cob (L.flatMap lnV ++ sp) 163) R] : SlA (OwnP W0 A) (some ⟨g, 0, none⟩) 7 lnV L := fun i x hx => by
  obtain ⟨hi, rfl⟩ := List.getElem?_eq_some_iff.1 hx
  refine ⟨g, 0, rfl, ?_⟩
  rw [Nat.zero_add]
  exact cells_part (ln_row L sp i hi) rfl
theorem shNoneO_spec (W0 : World) (R : List HP) (b : Nat) (v0 : Value) : Spec Tryz.prog W0 89 [.pointer (some ⟨b, 0, none⟩)] (pt b (cob [v0, .bool true] 161) :: R) (fun v B => v = .bool false ∧ B = pt b (cob [v0, .bool true] 161) :: R) := by
  refine spec_body Tryz.func89 Tryz.ntmps89 rfl rfl ?_
  refine x_seq (x_region (s_val rfl (v_assign rfl) (x_nil (n_then (x_seq (x_region (s_val rfl (v_move rfl) (s_val rfl (v_eql_ptr_nil Tryz.underlying95 rfl rfl) (s_val rfl (v_move rfl) ?_)))))))))
  refine s_or rfl rfl rfl ?_ ?_
  · intro g1_3
    cases g1_3
  · intro g1_3
    refine s_val rfl (v_move rfl) (s_yes rfl rfl (s_val rfl (v_nilCheck rfl) (s_yes rfl rfl ?_)))
    refine s_val rfl (v_fieldAddr rfl Tryz.underlying161 rfl Tryz.sizeOf4 rfl (by first | exact Nat.zero_add _ | rfl)) ?_
    refine s_yes rfl rfl (s_val rfl (v_load Tryz.isAgg4 rfl (cell_own rfl)) ?_)
    refine s_yes rfl rfl (s_val rfl (v_not rfl) (s_val rfl (v_pick_f rfl rfl) (s_val rfl (v_assign rfl) (x_nil (n_then (x_ret (x_done (.inl rfl) (.cons (r_tmp rfl) .nil) ?_)))))))
    exact ⟨_, ⟨rfl, rfl⟩, inferInstance⟩
theorem shTableO_spec (W0 : World) (R : List HP) (b : Nat) (L : List Ln) (hl : L.length ≤ 1000) (a : Option Addr) (n c : Nat) (hn : L.length = n) (hs : SlA (OwnP W0 (pt b (cob [.slice a n c, .bool true] 161) :: R)) a 7 lnV L) (p : Int) :
    Spec Tryz.prog W0 55 [.pointer (some ⟨b, 0, none⟩), .int .i64 p] (pt b (cob [.slice a n c, .bool true] 161) :: R) (fun v B => v = .bool (shT L p) ∧ B = pt b (cob [.slice a n c, .bool true] 161) :: R) := by
  subst hn
  refine spec_body Tryz.func55 Tryz.ntmps55 rfl rfl ?_
  refine x_seq (x_region (s_val rfl (v_assign rfl) (x_nil (n_then (x_seq (x_seq (x_region (s_val rfl (v_move rfl) (s_do rfl (d_call1 Tryz.call89 rfl (shNoneO_spec W0 _ b _)) ?_)))))))))
  rintro _ B_ ⟨rfl, hB_⟩
  obtain rfl := hB_.symm
  refine x_nil (n_then ?_)
  refine x_if rfl ?_ ?_
  · intro c1
    exact absurd c1 (by decide)
  · intro c1
    refine x_skip (n_then (x_seq (x_seq (x_region (s_val rfl (v_move rfl) (s_val rfl (v_nilCheck rfl) ?_))))))
    refine s_val rfl (v_fieldAddr rfl Tryz.underlying161 rfl Tryz.sizeOf159 rfl (by first | exact Nat.zero_add _ | rfl)) ?_
    refine s_val rfl (v_load Tryz.isAgg159 rfl (cell_own rfl)) ?_
    refine s_val rfl (v_len_slice Tryz.underlying159 rfl) (s_val rfl (v_move rfl) (x_nil (n_then (x_block ?_))))
    refine x_loop (fun i : Nat => i ≤ L.length ∧ ∀ j (hj : j < L.length), j < i → L[j].thr p = false) (fun i => [(0, .pointer (some ⟨b, 0, none⟩)), (1, .int .i64 p), (12, .int .i64 (L.length : Nat)), (13, .int .i64 i)]) (fun _ => pt b (cob [.slice a L.length c, .bool true] 161) :: R) (fun i => L.length - i) 0 ?_ ?_ ?_ ?_
    · exact ⟨Nat.zero_le _, fun j hj h0 => absurd h0 (Nat.not_lt_zero _)⟩
    · repeat (first | exact sub_nil | refine sub_cons rfl ?_)
    · exact inferInstance
    · intro i ⟨hi, hI⟩
      refine x_seq (x_region (s_val rfl (v_lss rfl rfl) (x_nil (n_then (x_seq ?_)))))
      refine x_if rfl ?_ ?_
      · intro c4
        refine x_skip (n_then (x_seq (x_block (x_seq (x_region (s_val rfl (v_move rfl) (s_val rfl (v_assign rfl) (x_nil (n_then (x_seq ?_))))))))))
        have hi1 : i < L.length := by omega
        obtain ⟨g, o, hga, hc⟩ := hs.at_ hi1
        obtain ⟨x, hx⟩ : ∃ x, L[i] = x := ⟨_, rfl⟩
        have hyes : x.thr p = true → shT L p = true := fun q => shT_iff.2 ⟨x, by rw [← hx]; exact List.getElem_mem hi1, q⟩
        have hno : x.thr p = false → ∀ j (hj : j < L.length), j < i + 1 → L[j].thr p = false := fun q j hj hji => by
          rcases Nat.lt_or_ge j i with q2 | q2
          · exact hI j hj q2
          · obtain rfl : j = i := by omega
            rw [hx]; exact q
        rw [hx] at hc
        refine x_region (s_val rfl (v_move rfl) (s_val rfl (v_nilCheck rfl) ?_))
        refine s_val rfl (v_fieldAddr rfl Tryz.underlying161 rfl Tryz.sizeOf159 rfl (by first | exact Nat.zero_add _ | rfl)) ?_
        refine s_val rfl (v_load Tryz.isAgg159 rfl (cell_own rfl)) ?_
        refine s_val rfl (v_move rfl) ?_
        refine s_val rfl (v_idxA Tryz.underlying159 Tryz.sizeOf163 rfl hga rfl rfl hi1 (by first | exact Nat.zero_add _ | rfl)) ?_
        refine s_val rfl (v_move rfl) (s_do rfl (d_call Tryz.call95 rfl (lnThr_spec W0 _ g (o + i * 7) x hc p)) ?_)
        rintro _ B_ ⟨rfl, hB_⟩
        obtain rfl := hB_.symm
        refine x_nil (n_then ?_)
        refine x_if rfl ?_ ?_
        · intro c6
          refine x_seq (x_region (s_val rfl (v_assign rfl) (x_nil (n_then (x_ret (r_block (r_then (r_then (r_block (r_then (x_done (.inl rfl) (.cons (r_tmp rfl) .nil) ?_)))))))))))
          rw [hyes c6]
          exact ⟨_, ⟨rfl, rfl⟩, inferInstance⟩
        · intro c6
          refine x_skip (n_block (n_then (x_region ?_)))
          refine s_val rfl (v_add rfl rfl (by first | exact w64 (by omega) | rfl)) ?_
          refine s_val rfl (v_move rfl) (x_nil (n_then ?_))
          refine inv_intro (i + 1) ?_ ?_ ?_ ?_
          · exact ⟨by omega, hno (by simpa using c6)⟩
          · omega
          · repeat (first | exact sub_nil | refine sub_cons rfl ?_)
          · exact inferInstance
      · intro c4
        refine x_exit (e_then (e_then (e_block (n_then (x_seq (x_region (s_val rfl (v_assign rfl) (x_nil (n_then (x_ret (x_done (.inl rfl) (.cons (r_tmp rfl) .nil) ?_)))))))))))
        have ht : shT L p = false := by
          rw [← Bool.not_eq_true, shT_iff]
          rintro ⟨x, hx, q⟩
          obtain ⟨j, hj, rfl⟩ := List.getElem_of_mem hx
          rw [hI j hj (by omega)] at q; cases q
        rw [ht]
        exact ⟨_, ⟨rfl, rfl⟩, inferInstance⟩
def prL (r l : Int) (L : List Ln) (i : Nat) : List Ln := (L.take i).map (prI r l) ++ L.drop i
theorem prL_len (r l : Int) (L : List Ln) (i : Nat) (hi : i ≤ L.length) : (prL r l L i).length = L.length := by simp [prL]; omega
theorem prL_at {r l : Int} {L : List Ln} {i : Nat} (hi : i < L.length) : (prL r l L i)[i]'(by rw [prL_len _ _ _ _ (by omega)]; exact hi) = L[i] := by
  simp only [prL]
  rw [List.getElem_append_right (by simp; omega)]
  simp [show min i L.length = i by omega]
theorem prL_succ {r l : Int} {L : List Ln} {i : Nat} (hi : i < L.length) : prL r l L (i + 1) = (prL r l L i).set i (prI r l L[i]) := by
  have h1 : ((L.take i).map (prI r l)).length = i := by simp; omega
  unfold prL
  rw [List.take_succ_eq_append_getElem hi, List.map_append, List.map_singleton, List.drop_eq_getElem_cons hi (l := L), List.set_append_right _ _ (by omega), h1, Nat.sub_self, List.set_cons_zero]
  simp
theorem shProt_spec (W0 : World) (R : List HP) (b : Nat) (L : List Ln) (z : Ln) (hl : (L ++ [z]).length ≤ 1000) (hr : ∀ x ∈ L ++ [z], i64 x.e.2.2) (r l : Int) :
    Spec Tryz.prog W0 150 [.pointer (some ⟨b, 0, none⟩), .int .i64 r, .int .i64 l] (shH b (L ++ [z]) :: R)
      (fun v B => v = .tuple #[] ∧ B = shH b (lastN ((L ++ [z]).map (prI r l))) :: R) := by
  have hres : lastN ((L ++ [z]).map (prI r l)) = L.map (prI r l) ++ [if shT ((L ++ [z]).map (prI r l)) (prI r l z).e.1 then (prI r l z).nar else prI r l z] := by
    rw [List.map_append, List.map_singleton, lastN_snoc]
  have hfull : prL r l (L ++ [z]) (L ++ [z]).length = (L ++ [z]).map (prI r l) := by unfold prL; rw [List.take_length, List.drop_length, List.append_nil]
  obtain ⟨M, hM⟩ : ∃ M, L ++ [z] = M := ⟨_, rfl⟩
  have hMl : M.length = L.length + 1 := by rw [← hM]; simp
  rw [hM] at hres hfull hl hr ⊢
  have hr2 : i64 (prI r l z).e.2.2 := by
    have := hr z (by rw [← hM]; simp)
    unfold prI; split
    · show i64 (noW z.e.2.2)
      obtain ⟨h1, h2⟩ := this
      unfold noW; split
      · rename_i hw
        have := of_decide_eq_true hw
        exact ⟨by omega, by omega⟩
      · exact ⟨h1, h2⟩
    · exact this
  refine spec_body Tryz.func150 Tryz.ntmps150 rfl rfl ?_
  refine x_seq (x_seq ?_)
  refine run_shN (b := b) (by intro q; rw [q] at hMl; simp at hMl) fun g c sp k1 k2 k3 => ?_
  refine x_region (s_val rfl (v_move rfl) (s_val rfl (v_nilCheck rfl) ?_))
  refine s_val rfl (v_fieldAddr rfl Tryz.underlying161 rfl Tryz.sizeOf159 rfl (by first | exact Nat.zero_add _ | rfl)) ?_
  refine s_val rfl (v_load Tryz.isAgg159 rfl (cell_own rfl)) ?_
  refine s_val rfl (v_len_slice Tryz.underlying159 rfl) (s_val rfl (v_move rfl) (x_nil (n_then (x_block ?_))))
  refine x_loop (fun i : Nat => i ≤ M.length) (fun i => [(0, .pointer (some ⟨b, 0, none⟩)), (1, .int .i64 r), (2, .int .i64 l), (13, .int .i64 (M.length : Nat)), (14, .int .i64 i)]) (fun i => pt b (cob [.slice (some ⟨g, 0, none⟩) M.length c, .bool true] 161) :: pt g (cob ((prL r l M i).flatMap lnV ++ sp) 163) :: R) (fun i => M.length - i) 0 ?_ ?_ ?_ ?_
  · exact Nat.zero_le _
  · repeat (first | exact sub_nil | refine sub_cons rfl ?_)
  · rw [show prL r l M 0 = M by simp [prL]]
    exact inferInstance
  · intro i hi
    refine x_seq (x_region (s_val rfl (v_lss rfl rfl) (x_nil (n_then (x_seq ?_)))))
    refine x_if rfl ?_ ?_
    · intro c1
      refine x_skip (n_then ?_)
      refine x_cut (fun _ : Unit => True) (fun _ => [(0, .pointer (some ⟨b, 0, none⟩)), (1, .int .i64 r), (2, .int .i64 l), (13, .int .i64 (M.length : Nat)), (14, .int .i64 i)]) (fun _ => pt b (cob [.slice (some ⟨g, 0, none⟩) M.length c, .bool true] 161) :: pt g (cob ((prL r l M (i + 1)).flatMap lnV ++ sp) 163) :: R) ?_ ?_
      · skip
        refine x_block (x_seq (x_region (s_val rfl (v_move rfl) (s_val rfl (v_assign rfl) (x_nil (n_then (x_seq ?_)))))))
        have hi1 : i < M.length := by omega
        have hpl := prL_len r l M i hi
        have hat : (prL r l M i)[i]'(by rw [hpl]; exact hi1) = M[i] := prL_at hi1
        have hsu := prL_succ (r := r) (l := l) hi1
        have hri := hr _ (List.getElem_mem hi1)
        have hge := fun j hj => ln_get (prL r l M i) sp i j (by rw [hpl]; exact hi1) hj
        have hse := ln_setE (prL r l M i) sp i (by rw [hpl]; exact hi1)
        rw [hat] at hge hse
        obtain ⟨x, hx⟩ : ∃ x, M[i] = x := ⟨_, rfl⟩
        rw [hx] at hsu hri hge hse
        refine x_region (s_val rfl (v_move rfl) (s_val rfl (v_nilCheck rfl) ?_))
        refine s_val rfl (v_fieldAddr rfl Tryz.underlying161 rfl Tryz.sizeOf159 rfl (by first | exact Nat.zero_add _ | rfl)) ?_
        refine s_val rfl (v_load Tryz.isAgg159 rfl (cell_own rfl)) ?_
        refine s_val rfl (v_move rfl) ?_
        refine s_val rfl (v_idx Tryz.underlying159 Tryz.sizeOf163 rfl rfl rfl hi1 (by first | exact Nat.zero_add _ | rfl)) ?_
        refine s_val rfl (v_fieldAddr rfl Tryz.underlying163 rfl Tryz.sizeOf68 rfl (by first | exact Nat.zero_add _ | rfl)) ?_
        refine s_val rfl (v_fieldAddr rfl Tryz.underlying68 rfl Tryz.sizeOf66 rfl (by first | exact Nat.zero_add _ | rfl)) ?_
        refine s_val rfl (v_fieldAddr rfl Tryz.underlying66 rfl Tryz.sizeOf3 rfl (by first | exact Nat.zero_add _ | rfl)) ?_
        refine s_val rfl (v_load Tryz.isAgg3 rfl (cell_own ((hge 2 (by decide)).trans rfl))) ?_
        refine s_val rfl (v_assign rfl) (x_nil (n_then (x_seq (x_region (s_val rfl (v_move rfl) (s_val rfl (v_move rfl) (s_val rfl (v_eql rfl rfl) (s_val rfl (v_move rfl) ?_))))))))
        refine s_or rfl rfl rfl ?_ ?_
        · intro g4_4
          refine s_no rfl rfl rfl rfl (s_no rfl rfl rfl rfl (s_val rfl (v_pick_t rfl rfl) (x_nil (n_then (x_ift rfl (x_region (s_val rfl (v_move rfl) (s_val rfl (v_nilCheck rfl) ?_))))))))
          refine s_val rfl (v_fieldAddr rfl Tryz.underlying161 rfl Tryz.sizeOf159 rfl (by first | exact Nat.zero_add _ | rfl)) ?_
          refine s_val rfl (v_load Tryz.isAgg159 rfl (cell_own rfl)) ?_
          refine s_val rfl (v_move rfl) ?_
          refine s_val rfl (v_idx Tryz.underlying159 Tryz.sizeOf163 rfl rfl rfl hi1 (by first | exact Nat.zero_add _ | rfl)) ?_
          refine s_do rfl (d_call1 Tryz.call160 rfl (lnNar_spec W0 _ g (i * 7) ((prL r l M i).flatMap lnV ++ sp) x.e.2.2 hri ((hge 4 (by decide)).trans rfl))) ?_
          rintro _ B_ ⟨rfl, hB_⟩
          obtain rfl := hB_.symm
          rw [hse]
          refine x_nil (n_block (n_then ?_))
          refine mid_intro () ?_ ?_ ?_
          · trivial
          · repeat (first | exact sub_nil | refine sub_cons rfl ?_)
          · rw [hsu, show prI r l x = x.nar from if_pos (by omega)]
            exact inferInstance
        · intro g4_4
          refine s_val rfl (v_move rfl) (s_yes rfl rfl (s_val rfl (v_move rfl) (s_yes rfl rfl (s_val rfl (v_eql rfl rfl) (s_val rfl (v_pick_f rfl rfl) (x_nil (n_then ?_)))))))
          refine x_if rfl ?_ ?_
          · intro c4
            refine x_region (s_val rfl (v_move rfl) (s_val rfl (v_nilCheck rfl) ?_))
            refine s_val rfl (v_fieldAddr rfl Tryz.underlying161 rfl Tryz.sizeOf159 rfl (by first | exact Nat.zero_add _ | rfl)) ?_
            refine s_val rfl (v_load Tryz.isAgg159 rfl (cell_own rfl)) ?_
            refine s_val rfl (v_move rfl) ?_
            refine s_val rfl (v_idx Tryz.underlying159 Tryz.sizeOf163 rfl rfl rfl hi1 (by first | exact Nat.zero_add _ | rfl)) ?_
            refine s_do rfl (d_call1 Tryz.call160 rfl (lnNar_spec W0 _ g (i * 7) ((prL r l M i).flatMap lnV ++ sp) x.e.2.2 hri ((hge 4 (by decide)).trans rfl))) ?_
            rintro _ B_ ⟨rfl, hB_⟩
            obtain rfl := hB_.symm
            rw [hse]
            refine x_nil (n_block (n_then ?_))
            refine mid_intro () ?_ ?_ ?_
            · trivial
            · repeat (first | exact sub_nil | refine sub_cons rfl ?_)
            · rw [hsu, show prI r l x = x.nar from if_pos (by omega)]
              exact inferInstance
          · intro c4
            refine x_skip (n_block (n_then ?_))
            refine mid_intro () ?_ ?_ ?_
            · trivial
            · repeat (first | exact sub_nil | refine sub_cons rfl ?_)
            · rw [hsu, show prI r l x = x from if_neg (by omega), show (prL r l M i).set i x = prL r l M i by rw [← hx, ← hat, List.set_getElem_self]]
              exact inferInstance
      · intro _ _
        refine x_region ?_
        refine s_val rfl (v_add rfl rfl (by first | exact w64 (by omega) | rfl)) ?_
        refine s_val rfl (v_move rfl) (x_nil (n_then ?_))
        refine inv_intro (i + 1) ?_ ?_ ?_ ?_
        · omega
        · omega
        · repeat (first | exact sub_nil | refine sub_cons rfl ?_)
        · exact inferInstance
    · intro c1
      refine x_exit (e_then (e_then (e_block (n_then (x_seq ?_)))))
      obtain rfl : i = M.length := by omega
      rw [hfull]
      have hml : (M.map (prI r l)).length = M.length := List.length_map _
      have hln : L.length < (M.map (prI r l)).length := by omega
      have hat : (M.map (prI r l))[L.length] = prI r l z := by simp [← hM]
      have hge := fun j hj => ln_get (M.map (prI r l)) sp L.length j hln hj
      have hse := ln_setE (M.map (prI r l)) sp L.length hln
      have hst : (M.map (prI r l)).set L.length (prI r l z).nar = L.map (prI r l) ++ [(prI r l z).nar] := by
        rw [← hM, List.map_append, List.set_append_right _ _ (by simp)]; simp
      have hst2 : M.map (prI r l) = L.map (prI r l) ++ [prI r l z] := by rw [← hM, List.map_append]; rfl
      rw [hat] at hge hse
      refine x_draw [(b, 0, _)] 12 mixed rfl (sc_own sc_end) (fun hS => ?_)
      refine d_take 0 rfl rfl (by kernel_rfl) (by kernel_rfl) (by kernel_rfl) rfl hS (v_move rfl) ?_
      refine d_take 1 rfl rfl (by kernel_rfl) (by kernel_rfl) (by kernel_rfl) rfl hS (v_nilCheck rfl) ?_
      refine d_take 2 rfl rfl (by kernel_rfl) (by kernel_rfl) (by kernel_rfl) rfl hS (v_fieldAddr rfl Tryz.underlying161 rfl Tryz.sizeOf159 rfl (by first | exact Nat.zero_add _ | rfl)) ?_
      refine d_take 3 rfl rfl (by kernel_rfl) (by kernel_rfl) (by kernel_rfl) rfl hS (v_load Tryz.isAgg159 rfl (cell_sc0 (k := 0) rfl rfl)) ?_
      refine d_take 4 rfl rfl (by kernel_rfl) (by kernel_rfl) (by kernel_rfl) rfl hS (v_move rfl) ?_
      refine d_take 5 rfl rfl (by kernel_rfl) (by kernel_rfl) (by kernel_rfl) rfl hS (v_nilCheck rfl) ?_
      refine d_take 6 rfl rfl (by kernel_rfl) (by kernel_rfl) (by kernel_rfl) rfl hS (v_fieldAddr rfl Tryz.underlying161 rfl Tryz.sizeOf159 rfl (by first | exact Nat.zero_add _ | rfl)) ?_
      refine d_take 7 rfl rfl (by kernel_rfl) (by kernel_rfl) (by kernel_rfl) rfl hS (v_load Tryz.isAgg159 rfl (cell_sc0 (k := 0) rfl rfl)) ?_
      refine d_take 8 rfl rfl (by kernel_rfl) (by kernel_rfl) (by kernel_rfl) rfl hS (v_len_slice Tryz.underlying159 rfl) ?_
      refine d_take 9 rfl rfl (by kernel_rfl) (by kernel_rfl) (by kernel_rfl) rfl hS (v_sub rfl rfl (by rw [w64 (by omega)]; omega : IntKind.wrap .i64 ((M.length : Int) - 1) = ((L.length : Nat) : Int))) ?_
      refine d_take 10 rfl rfl (by kernel_rfl) (by kernel_rfl) (by kernel_rfl) rfl hS (v_idx Tryz.underlying159 Tryz.sizeOf163 rfl rfl rfl (by omega) (by first | exact Nat.zero_add _ | rfl)) ?_
      refine d_take 11 rfl rfl (by kernel_rfl) (by kernel_rfl) (by kernel_rfl) rfl hS (v_assign rfl) ?_
      refine d_done (by kernel_rfl) ?_; clear hS
      refine n_then (x_seq (x_region (s_val rfl (v_move rfl) (s_val rfl (v_move rfl) (s_val rfl (v_nilCheck rfl) ?_)))))
      refine s_val rfl (v_fieldAddr rfl Tryz.underlying163 rfl Tryz.sizeOf68 rfl (by first | exact Nat.zero_add _ | rfl)) ?_
      refine s_val rfl (v_fieldAddr rfl Tryz.underlying68 rfl Tryz.sizeOf66 rfl (by first | exact Nat.zero_add _ | rfl)) ?_
      refine s_val rfl (v_fieldAddr rfl Tryz.underlying66 rfl Tryz.sizeOf3 rfl (by first | exact Nat.zero_add _ | rfl)) ?_
      refine s_val rfl (v_load Tryz.isAgg3 rfl (cell_own ((hge 2 (by decide)).trans rfl))) ?_
      refine s_do rfl (d_call1 Tryz.call55 rfl (shTableO_spec W0 _ b (M.map (prI r l)) (by omega) (some ⟨g, 0, none⟩) M.length c hml (sla_ln (g := g) (sp := sp)) (prI r l z).e.1)) ?_
      rintro _ B_ ⟨rfl, hB_⟩
      obtain rfl := hB_.symm
      refine x_nil (n_then ?_)
      refine x_if rfl ?_ ?_
      · intro c8
        refine x_region (s_val rfl (v_move rfl) ?_)
        refine s_do rfl (d_call1 Tryz.call160 rfl (lnNar_spec W0 _ g (L.length * 7) ((M.map (prI r l)).flatMap lnV ++ sp) (prI r l z).e.2.2 hr2 ((hge 4 (by decide)).trans rfl))) ?_
        rintro _ B_ ⟨rfl, hB_⟩
        obtain rfl := hB_.symm
        rw [hse, hst]
        refine x_nil (x_done (.inr rfl) .nil ?_)
        rw [hres, if_pos c8]
        exact ⟨_, ⟨rfl, rfl⟩, ent_shN (b := b) rfl (by simp; omega) (by omega) k2 (by rw [← k3]; simp only [List.length_append, flat_len lnV_len, List.length_map, List.length_singleton]; omega)⟩
      · intro c8
        refine x_skip (x_done (.inr rfl) .nil ?_)
        rw [hres, if_neg c8, ← hst2]
        exact ⟨_, ⟨rfl, rfl⟩, ent_shN (b := b) rfl hml.symm (by omega) k2 (by rw [← k3]; simp only [List.length_append, flat_len lnV_len, List.length_map])⟩
end Go.Proofs.YtllkdnadmmjehaaGreatDoor
namespace Go.Proofs.YtllkdnadmmjehaaGreatDoor
open Go.RowKit
set_option linter.unusedSimpArgs false
set_option linter.unusedVariables false
set_option maxRecDepth 20000
theorem cloneLn_spec (W0 : World) (R : List HP) (l : List Ln) (a : Option Addr) (n c : Nat) (hl : l.length = n) (hN : n ≤ 1000) (hs : SlA (OwnP W0 R) a 7 lnV l) :
    Spec Tryz.prog W0 149 [.slice a n c] R
      (fun v B => ∃ a' c', v = .slice a' n c' ∧ B = osl 163 7 (.slice a' n c') (l.flatMap lnV) :: R) := by
  subst hl
  refine spec_body Tryz.func149 Tryz.ntmps149 rfl rfl ?_
  refine x_seq (x_region (s_val rfl (v_assign rfl) (x_nil (n_then (x_seq (x_seq (x_region (s_val rfl (v_move rfl) (s_val rfl (v_eql_slice_nil Tryz.underlying159 rfl rfl) (x_nil (n_then ?_)))))))))))
  refine x_if rfl ?_ ?_
  · intro c1
    refine x_seq (x_region (s_val rfl (v_assign rfl) (x_nil (n_then (x_ret (r_then (x_done (.inl rfl) (.cons (r_tmp rfl) .nil) ?_)))))))
    have h0 : l = [] := by
      rcases l with _ | ⟨x, l⟩
      · rfl
      · obtain ⟨b, o, h, _⟩ := hs 0 x rfl
        rw [c1] at h; cases h
    subst h0
    exact ⟨_, ⟨none, 0, rfl, rfl⟩, ent_osl_nil⟩
  · intro c1
    have hsrc := hs.src lnV_len (fun _ => trivial)
    refine x_skip (n_then (x_seq (x_region (s_do rfl (d_slice0 Tryz.underlying159 Tryz.sizeOf163 rfl) ?_))))
    rintro _ _ ⟨be, rfl, rfl⟩
    refine s_val rfl (v_move rfl) ?_
    refine s_do rfl (d_appendS (sz := 7) (by_ := 56) (info := Tryz.t163) Tryz.underlying159 (by kernel_rfl) rfl rfl rfl rfl (by decide) rfl rfl (news := l.flatMap lnV) (by
  rcases hsrc with h | ⟨bs, os, h1, h2⟩
  · left; rw [h]; rfl
  · right; exact ⟨bs, os, h1, h2.weak⟩) (flat_len lnV_len l) (allOne_flat lnV_one l) (by simp only [maxLen]; omega) (by omega)) ?_
    rintro _ _ ⟨a1, c1, rfl, rfl⟩
    refine s_val rfl (v_assign rfl) (x_nil (n_then (x_ret (x_done (.inl rfl) (.cons (r_tmp rfl) .nil) ?_))))
    rw [Nat.zero_add, List.nil_append]
    exact ⟨_, ⟨a1, c1, rfl, rfl⟩, inferInstance⟩
theorem shCut_eq (k : Key) (e : Ent3) (r l : Int) (L : List Ln) : shCut (shAdd k e r l L) = shOld k L ++ [⟨k, e, r, l⟩] := by
  unfold shCut shAdd shOld
  rw [List.length_append, List.length_singleton]
  by_cases q : 31 < (L.filter fun x => decide (x.k ≠ k)).length
  · rw [if_pos (by omega), if_pos q]
    cases e1 : (L.filter fun x => decide (x.k ≠ k)) with
    | nil => rw [e1] at q; simp at q
    | cons a t => rfl
  · rw [if_neg (by omega), if_neg q]
theorem sla_drop1 {α : Type} {S : World → Prop} {a : Option Addr} {g o sz : Nat} {f : α → List Value} {xs : List α} (h : SlA S a sz f xs) (ha : a = some ⟨g, o, none⟩) : SlA S (some ⟨g, o + sz, none⟩) sz f xs.tail := fun i x hx => by
  obtain ⟨b, off, e, hc⟩ := h (i + 1) x (by rw [← hx]; simp)
  rw [ha] at e; cases e
  exact ⟨g, o + sz, rfl, by rw [show o + sz + i * sz = o + (i + 1) * sz by rw [Nat.succ_mul]; omega]; exact hc⟩
theorem shFill_spec (W0 : World) (R : List HP) (b : Nat) (L : List Ln) (hl : L.length ≤ 32) (hr : ∀ x ∈ L, i64 x.e.2.2) (k : Key) (e : Ent3) (he : i64 e.2.2) (r l : Int) (h1 : ownP r = true) (h2 : ownP l = true) :
    Spec Tryz.prog W0 124 [.pointer (some ⟨b, 0, none⟩), .agg (keyV k).toArray, .agg (entV e).toArray, .int .i64 r, .int .i64 l] (shH b L :: R)
      (fun v B => ∃ a c, v = .tuple #[.slice a (shFr L r l).length c, .int .i64 0] ∧ B = osl 3 1 (.slice a (shFr L r l).length c) ((shFr L r l).flatMap iI) :: shH b (shFill k e r l L) :: R) := by
  have hflt : L.filter (fun x => !(decide (x.k = k))) = L.filter fun x => decide (x.k ≠ k) := by
    apply List.filter_congr; intro x _; simp
  obtain ⟨M, hM⟩ : ∃ M, (L.filter fun x => decide (x.k ≠ k)) = M := ⟨_, rfl⟩
  have hMl : M.length ≤ 32 := by rw [← hM]; exact Nat.le_trans (List.length_filter_le _ _) hl
  have hO : shOld k L = if 31 < M.length then M.tail else M := by rw [shOld, hM]
  have hOl := shOld_len (k := k) hl
  have hOm : ∀ x ∈ shOld k L ++ [(⟨k, e, r, l⟩ : Ln)], i64 x.e.2.2 := fun x hx => by
    rcases List.mem_append.1 hx with q | q
    · exact hr x (shOld_mem q).1
    · obtain rfl : x = (⟨k, e, r, l⟩ : Ln) := by simpa using q
      exact he
  have hF : shFill k e r l L = lastN ((shOld k L ++ [(⟨k, e, r, l⟩ : Ln)]).map (prI r l)) := by rw [shFill, shCut_eq]
  obtain ⟨fr, hfr⟩ : ∃ f, shFr L r l = f := ⟨_, rfl⟩
  rw [hfr, hF]
  refine spec_body Tryz.func124 Tryz.ntmps124 rfl rfl ?_
  refine x_seq (x_region (s_do rfl (d_boxA rfl) ?_))
  rintro _ _ ⟨b6, rfl, rfl⟩
  refine s_do rfl (d_boxA rfl) ?_
  rintro _ _ ⟨b7, rfl, rfl⟩
  refine s_val rfl (v_assign rfl) (s_val rfl (v_assign rfl) (x_nil (n_then (x_seq (x_block (x_seq (x_region (s_val rfl (v_move rfl) (s_do rfl (d_call1 Tryz.call89 rfl (shNone_spec W0 _ b L)) ?_)))))))))
  rintro _ B_ ⟨rfl, hB_⟩
  obtain rfl := hB_.symm
  refine s_val rfl (v_assign rfl) (x_nil (n_then ?_))
  refine x_if rfl ?_ ?_
  · intro c1
    exact absurd c1 (by decide)
  · intro c1
    refine x_seq (x_seq (x_region (s_val rfl (v_move rfl) (s_do rfl (d_call Tryz.call146 rfl (shOwn_spec W0 _ r)) ?_))))
    rintro _ B_ ⟨rfl, hB_⟩
    obtain rfl := hB_.symm
    rw [h1]
    refine s_val rfl (v_not rfl) (s_val rfl (v_assign rfl) (x_nil (n_then ?_)))
    refine x_if rfl ?_ ?_
    · intro c3
      exact absurd rfl c3
    · intro c3
      refine x_region (s_val rfl (v_move rfl) (s_do rfl (d_call Tryz.call146 rfl (shOwn_spec W0 _ l)) ?_))
      rintro _ B_ ⟨rfl, hB_⟩
      obtain rfl := hB_.symm
      rw [h2]
      refine s_val rfl (v_not rfl) (s_val rfl (v_assign rfl) (x_nil (n_then ?_)))
      refine x_if rfl ?_ ?_
      · intro c4
        exact absurd rfl c4
      · intro c4
        refine x_skip (n_block (n_then (x_seq (x_region (s_val rfl (v_move rfl) (s_val rfl (v_move rfl) (s_val rfl (v_move rfl) ?_)))))))
        refine s_do rfl (d_call1 Tryz.call147 rfl (shFresh_spec W0 _ b L (by omega) r l)) ?_
        rintro _ B_ ⟨af, cf, rfl, hB_⟩
        obtain rfl := hB_.symm
        rw [hfr]
        refine s_val rfl (v_assign rfl) (x_nil (n_then (x_seq (x_region (s_val rfl (v_move rfl) (s_val rfl (v_mkFunc rfl rfl) ?_))))))
        refine s_do rfl (does_ent (B := shH b L :: kH 0 (grp [pt b6 (cob (keyV k) 64)]) :: osl 3 1 (.slice af fr.length cf) (fr.flatMap iI) :: pt b7 (cob (entV e) 66) :: R) inferInstance (d_call Tryz.call103 rfl (shDrop_spec W0 _ b L (by omega) 148 [.pointer (some ⟨b6, 0, none⟩)] _ _ (fill1_pl W0 b6 k)))) ?_
        rintro _ B_ ⟨ak, ck, rfl, hB_⟩
        obtain rfl := hB_.symm
        rw [hflt, hM]
        refine run_kgrp ?_
        simp only [List.cons_append, List.nil_append]
        refine run_sh (b := b) fun a c => ?_
        refine x_nil (n_then (x_seq ?_))
        refine x_draw [(b6, 0, _), (b7, 0, _)] 16 mixed rfl (sc_own (sc_own sc_end)) (fun hS => ?_)
        refine d_take 0 rfl rfl (by kernel_rfl) (by kernel_rfl) (by kernel_rfl) rfl hS (v_move rfl) ?_
        refine d_take 1 rfl rfl (by kernel_rfl) (by kernel_rfl) (by kernel_rfl) rfl hS (v_move rfl) ?_
        refine d_take 2 rfl rfl (by kernel_rfl) (by kernel_rfl) (by kernel_rfl) rfl hS (v_nilCheck rfl) ?_
        refine d_take 3 rfl rfl (by kernel_rfl) (by kernel_rfl) (by kernel_rfl) rfl hS (v_fieldAddr rfl Tryz.underlying161 rfl Tryz.sizeOf159 rfl (by first | exact Nat.zero_add _ | rfl)) ?_
        refine d_take 5 rfl rfl (by kernel_rfl) (by kernel_rfl) (by kernel_rfl) rfl hS (v_loadAgg Tryz.isAgg64 Tryz.sizeOf64 rfl (by first | exact cells_sc (k := 0) rfl | exact cells_sc (k := 1) rfl) rfl) ?_
        refine d_take 6 rfl rfl (by kernel_rfl) (by kernel_rfl) (by kernel_rfl) rfl hS (v_loadAgg Tryz.isAgg66 Tryz.sizeOf66 rfl (by first | exact cells_sc (k := 0) rfl | exact cells_sc (k := 1) rfl) rfl) ?_
        refine d_take 7 rfl rfl (by kernel_rfl) (by kernel_rfl) (by kernel_rfl) rfl hS (v_build Tryz.underlying68 Tryz.zeroValue68 (sized_cons Tryz.sizeOf64 (sized_cons Tryz.sizeOf66 sized_nil)) (fil_agg rfl Tryz.sizeOf64 rfl rfl (Nat.le_of_ble_eq_true rfl) SetRL.eq (fil_agg rfl Tryz.sizeOf66 rfl rfl (Nat.le_of_ble_eq_true rfl) SetRL.eq fil_nil))) ?_
        refine d_take 8 rfl rfl (by kernel_rfl) (by kernel_rfl) (by kernel_rfl) rfl hS (v_move rfl) ?_
        refine d_take 9 rfl rfl (by kernel_rfl) (by kernel_rfl) (by kernel_rfl) rfl hS (v_move rfl) ?_
        refine d_take 10 rfl rfl (by kernel_rfl) (by kernel_rfl) (by kernel_rfl) rfl hS (v_build Tryz.underlying163 Tryz.zeroValue163 (sized_cons Tryz.sizeOf68 (sized_cons Tryz.sizeOf3 (sized_cons Tryz.sizeOf3 sized_nil))) (fil_agg rfl Tryz.sizeOf68 rfl rfl (Nat.le_of_ble_eq_true rfl) SetRL.eq (fil_scal rfl Tryz.sizeOf3 rfl rfl (Nat.le_of_ble_eq_true rfl) SetL.eq (fil_scal rfl Tryz.sizeOf3 rfl rfl (Nat.le_of_ble_eq_true rfl) SetL.eq fil_nil)))) ?_
        refine d_all (is := [4, 11]) (by kernel_rfl) rfl ⟨?_, ?_, trivial⟩
        · skip
          refine dx_one rfl rfl (d_val (v_load Tryz.isAgg159 rfl (cell_own rfl))) rfl ?_; clear hS
          rintro _ _ ⟨rfl, rfl⟩
          refine ⟨(sc_own (sc_own sc_end)), fun hS => ?_⟩
          refine d_one 11 (by kernel_rfl) rfl rfl (d_sliceAgg Tryz.underlying159 Tryz.sizeOf163 Tryz.zeroValue163 rfl (elsK_cons rfl rfl elsK_nil) rfl (by decide) (by decide) (by decide)) rfl ?_; clear hS
          rintro _ _ ⟨bb, rfl, rfl⟩
          rw [show ([lnV (⟨k, e, r, l⟩ : Ln)] : List (List Value)).flatten = lnV (⟨k, e, r, l⟩ : Ln) from List.append_nil _]
          refine ⟨(sc_own (sc_own sc_end)), fun hS => ?_⟩
          refine d_one 12 (by kernel_rfl) rfl rfl (d_append (sz := 7) (by_ := 56) (info := Tryz.t163) Tryz.underlying159 (by kernel_rfl) rfl rfl rfl rfl (by decide) rfl rfl cells_all rfl rfl (by simp only [maxLen]; omega) (by omega)) rfl ?_; clear hS
          rintro _ _ ⟨a3, c3, rfl, rfl⟩
          refine ⟨(sc_own (sc_own sc_end)), fun hS => ?_⟩
          refine d_take 13 rfl rfl (by kernel_rfl) (by kernel_rfl) (by kernel_rfl) rfl hS (v_nilCheck rfl) ?_
          refine d_take 14 rfl rfl (by kernel_rfl) (by kernel_rfl) (by kernel_rfl) rfl hS (v_fieldAddr rfl Tryz.underlying161 rfl Tryz.sizeOf159 rfl (by first | exact Nat.zero_add _ | rfl)) ?_
          refine d_one 15 (by kernel_rfl) rfl rfl (d_store Tryz.sizeOf159 rfl rfl rfl (Nat.le_of_ble_eq_true rfl) SetL.eq) rfl ?_; clear hS
          rintro _ _ rfl
          refine ⟨(sc_own (sc_own sc_end)), fun hS => ?_⟩
          refine d_done (by kernel_rfl) ?_; clear hS
          refine n_then ?_
          refine x_cut (fun _ : Unit => True) (fun _ => [(0, .pointer (some ⟨b, 0, none⟩)), (3, .int .i64 r), (4, .int .i64 l), (12, .slice af fr.length cf)]) (fun _ => shH b (shOld k L ++ [(⟨k, e, r, l⟩ : Ln)]) :: osl 3 1 (.slice af fr.length cf) (fr.flatMap iI) :: R) ?_ ?_
          · skip
            refine x_seq (x_region (s_val rfl (v_move rfl) (s_val rfl (v_nilCheck rfl) ?_)))
            refine s_val rfl (v_fieldAddr rfl Tryz.underlying161 rfl Tryz.sizeOf159 rfl (by first | exact Nat.zero_add _ | rfl)) ?_
            refine s_val rfl (v_load Tryz.isAgg159 rfl (cell_own rfl)) ?_
            refine s_val rfl (v_len_slice Tryz.underlying159 rfl) (s_val rfl (v_gtr rfl rfl) (x_nil (n_then ?_)))
            refine x_if rfl ?_ ?_
            · intro c9
              have hfm : (M.flatMap lnV ++ lnV (⟨k, e, r, l⟩ : Ln)) = (M ++ [(⟨k, e, r, l⟩ : Ln)]).flatMap lnV := by rw [List.flatMap_append, List.flatMap_singleton]
              refine run_form (E := 163) (sz := 7) (a := a3) (c := c3) (n := M.length + 1) (ys := M.flatMap lnV ++ lnV (⟨k, e, r, l⟩ : Ln)) (fun hf => ?_)
              obtain ⟨g, rfl⟩ := form_some hf (by simp [lnV])
              refine run_cap (E := 163) (sz := 7) (a := some ⟨g, 0, none⟩) (c := c3) (n := M.length + 1) (fun hcap => ?_)
              refine run_sla (E := 163) (sz := 7) (a := some ⟨g, 0, none⟩) (c := c3) (n := M.length + 1) lnV (M ++ [(⟨k, e, r, l⟩ : Ln)]) lnV_len (by decide) hfm (fun hs => ?_)
              refine x_region (s_val rfl (v_move rfl) (s_val rfl (v_move rfl) (s_val rfl (v_nilCheck rfl) ?_)))
              refine s_val rfl (v_fieldAddr rfl Tryz.underlying161 rfl Tryz.sizeOf159 rfl (by first | exact Nat.zero_add _ | rfl)) ?_
              refine s_val rfl (v_load Tryz.isAgg159 rfl (cell_own rfl)) ?_
              refine s_val rfl (v_sliceL (o' := 0 + 7) Tryz.underlying159 Tryz.sizeOf163 rfl rfl (i := 1) rfl (by omega) (by omega) rfl) ?_
              refine s_do rfl (d_call Tryz.call149 rfl (cloneLn_spec W0 _ ((M ++ [(⟨k, e, r, l⟩ : Ln)]).tail) (some ⟨g, 0 + 7, none⟩) (M.length + 1 - 1) (c3 - 1) (by simp) (by omega) (sla_drop1 hs rfl))) ?_
              rintro _ B_ ⟨a4, c4, rfl, hB_⟩
              obtain rfl := hB_.symm
              refine s_val rfl (v_nilCheck rfl) ?_
              refine s_val rfl (v_fieldAddr rfl Tryz.underlying161 rfl Tryz.sizeOf159 rfl (by first | exact Nat.zero_add _ | rfl)) ?_
              refine s_do0 (d_store Tryz.sizeOf159 rfl rfl rfl (Nat.le_of_ble_eq_true rfl) SetL.eq) ?_
              rintro _ _ rfl
              refine x_nil (n_then ?_)
              refine mid_intro () ?_ ?_ ?_
              · trivial
              · repeat (first | exact sub_nil | refine sub_cons rfl ?_)
              · have hne : M ≠ [] := by intro q; rw [q] at c9; simp at c9
                have htl : (M ++ [(⟨k, e, r, l⟩ : Ln)]).tail = M.tail ++ [(⟨k, e, r, l⟩ : Ln)] := List.tail_append_of_ne_nil hne
                rw [hO, if_pos (by omega), ← htl]
                exact Ent.trans (B := pt b (cob [.slice a4 (M.length + 1 - 1) c4, .bool true] 161) :: osl 163 7 (.slice a4 (M.length + 1 - 1) c4) ((M ++ [(⟨k, e, r, l⟩ : Ln)]).tail.flatMap lnV) :: osl 3 1 (.slice af fr.length cf) (fr.flatMap iI) :: R) inferInstance (ent_sh (b := b) (by simp))
            · intro c9
              refine x_skip (n_then ?_)
              refine mid_intro () ?_ ?_ ?_
              · trivial
              · repeat (first | exact sub_nil | refine sub_cons rfl ?_)
              · rw [hO, if_neg (by omega)]
                have hfm : (M.flatMap lnV ++ lnV (⟨k, e, r, l⟩ : Ln)) = (M ++ [(⟨k, e, r, l⟩ : Ln)]).flatMap lnV := by rw [List.flatMap_append, List.flatMap_singleton]
                rw [hfm]
                exact Ent.trans (B := pt b (cob [.slice a3 (M.length + 1) c3, .bool true] 161) :: osl 163 7 (.slice a3 (M.length + 1) c3) ((M ++ [(⟨k, e, r, l⟩ : Ln)]).flatMap lnV) :: osl 3 1 (.slice af fr.length cf) (fr.flatMap iI) :: R) inferInstance (ent_sh (b := b) (by simp))
          · intro _ _
            refine x_seq (x_region (s_val rfl (v_move rfl) (s_val rfl (v_move rfl) (s_val rfl (v_move rfl) ?_))))
            refine s_do rfl (d_call1 Tryz.call150 rfl (shProt_spec W0 _ b (shOld k L) (⟨k, e, r, l⟩ : Ln) (by simp; omega) hOm r l)) ?_
            rintro _ B_ ⟨rfl, hB_⟩
            obtain rfl := hB_.symm
            refine x_nil (n_then (x_seq (x_region (s_val rfl (v_move rfl) (s_val rfl (v_assign rfl) (s_val rfl (v_assign rfl) (x_nil (n_then (x_ret (x_done (.inl rfl) (.cons (r_tmp rfl) (.cons (r_tmp rfl) .nil)) ?_))))))))))
            exact ⟨_, ⟨af, cf, rfl, rfl⟩, inferInstance⟩
        · skip
          refine dx_one rfl rfl (d_sliceAgg Tryz.underlying159 Tryz.sizeOf163 Tryz.zeroValue163 rfl (elsK_cons rfl rfl elsK_nil) rfl (by decide) (by decide) (by decide)) rfl ?_; clear hS
          rintro _ _ ⟨bb, rfl, rfl⟩
          rw [show ([lnV (⟨k, e, r, l⟩ : Ln)] : List (List Value)).flatten = lnV (⟨k, e, r, l⟩ : Ln) from List.append_nil _]
          refine ⟨(sc_own (sc_own sc_end)), fun hS => ?_⟩
          refine d_one 4 (by kernel_rfl) rfl rfl (d_val (v_load Tryz.isAgg159 rfl (cell_own rfl))) rfl ?_; clear hS
          rintro _ _ ⟨rfl, rfl⟩
          refine ⟨(sc_own (sc_own sc_end)), fun hS => ?_⟩
          refine d_one 12 (by kernel_rfl) rfl rfl (d_append (sz := 7) (by_ := 56) (info := Tryz.t163) Tryz.underlying159 (by kernel_rfl) rfl rfl rfl rfl (by decide) rfl rfl cells_all rfl rfl (by simp only [maxLen]; omega) (by omega)) rfl ?_; clear hS
          rintro _ _ ⟨a3, c3, rfl, rfl⟩
          refine ⟨(sc_own (sc_own sc_end)), fun hS => ?_⟩
          refine d_take 13 rfl rfl (by kernel_rfl) (by kernel_rfl) (by kernel_rfl) rfl hS (v_nilCheck rfl) ?_
          refine d_take 14 rfl rfl (by kernel_rfl) (by kernel_rfl) (by kernel_rfl) rfl hS (v_fieldAddr rfl Tryz.underlying161 rfl Tryz.sizeOf159 rfl (by first | exact Nat.zero_add _ | rfl)) ?_
          refine d_one 15 (by kernel_rfl) rfl rfl (d_store Tryz.sizeOf159 rfl rfl rfl (Nat.le_of_ble_eq_true rfl) SetL.eq) rfl ?_; clear hS
          rintro _ _ rfl
          refine ⟨(sc_own (sc_own sc_end)), fun hS => ?_⟩
          refine d_done (by kernel_rfl) ?_; clear hS
          refine n_then ?_
          refine x_cut (fun _ : Unit => True) (fun _ => [(0, .pointer (some ⟨b, 0, none⟩)), (3, .int .i64 r), (4, .int .i64 l), (12, .slice af fr.length cf)]) (fun _ => shH b (shOld k L ++ [(⟨k, e, r, l⟩ : Ln)]) :: osl 3 1 (.slice af fr.length cf) (fr.flatMap iI) :: R) ?_ ?_
          · skip
            refine x_seq (x_region (s_val rfl (v_move rfl) (s_val rfl (v_nilCheck rfl) ?_)))
            refine s_val rfl (v_fieldAddr rfl Tryz.underlying161 rfl Tryz.sizeOf159 rfl (by first | exact Nat.zero_add _ | rfl)) ?_
            refine s_val rfl (v_load Tryz.isAgg159 rfl (cell_own rfl)) ?_
            refine s_val rfl (v_len_slice Tryz.underlying159 rfl) (s_val rfl (v_gtr rfl rfl) (x_nil (n_then ?_)))
            refine x_if rfl ?_ ?_
            · intro c9
              have hfm : (M.flatMap lnV ++ lnV (⟨k, e, r, l⟩ : Ln)) = (M ++ [(⟨k, e, r, l⟩ : Ln)]).flatMap lnV := by rw [List.flatMap_append, List.flatMap_singleton]
              refine run_form (E := 163) (sz := 7) (a := a3) (c := c3) (n := M.length + 1) (ys := M.flatMap lnV ++ lnV (⟨k, e, r, l⟩ : Ln)) (fun hf => ?_)
              obtain ⟨g, rfl⟩ := form_some hf (by simp [lnV])
              refine run_cap (E := 163) (sz := 7) (a := some ⟨g, 0, none⟩) (c := c3) (n := M.length + 1) (fun hcap => ?_)
              refine run_sla (E := 163) (sz := 7) (a := some ⟨g, 0, none⟩) (c := c3) (n := M.length + 1) lnV (M ++ [(⟨k, e, r, l⟩ : Ln)]) lnV_len (by decide) hfm (fun hs => ?_)
              refine x_region (s_val rfl (v_move rfl) (s_val rfl (v_move rfl) (s_val rfl (v_nilCheck rfl) ?_)))
              refine s_val rfl (v_fieldAddr rfl Tryz.underlying161 rfl Tryz.sizeOf159 rfl (by first | exact Nat.zero_add _ | rfl)) ?_
              refine s_val rfl (v_load Tryz.isAgg159 rfl (cell_own rfl)) ?_
              refine s_val rfl (v_sliceL (o' := 0 + 7) Tryz.underlying159 Tryz.sizeOf163 rfl rfl (i := 1) rfl (by omega) (by omega) rfl) ?_
              refine s_do rfl (d_call Tryz.call149 rfl (cloneLn_spec W0 _ ((M ++ [(⟨k, e, r, l⟩ : Ln)]).tail) (some ⟨g, 0 + 7, none⟩) (M.length + 1 - 1) (c3 - 1) (by simp) (by omega) (sla_drop1 hs rfl))) ?_
              rintro _ B_ ⟨a4, c4, rfl, hB_⟩
              obtain rfl := hB_.symm
              refine s_val rfl (v_nilCheck rfl) ?_
              refine s_val rfl (v_fieldAddr rfl Tryz.underlying161 rfl Tryz.sizeOf159 rfl (by first | exact Nat.zero_add _ | rfl)) ?_
              refine s_do0 (d_store Tryz.sizeOf159 rfl rfl rfl (Nat.le_of_ble_eq_true rfl) SetL.eq) ?_
              rintro _ _ rfl
              refine x_nil (n_then ?_)
              refine mid_intro () ?_ ?_ ?_
              · trivial
              · repeat (first | exact sub_nil | refine sub_cons rfl ?_)
              · have hne : M ≠ [] := by intro q; rw [q] at c9; simp at c9
                have htl : (M ++ [(⟨k, e, r, l⟩ : Ln)]).tail = M.tail ++ [(⟨k, e, r, l⟩ : Ln)] := List.tail_append_of_ne_nil hne
                rw [hO, if_pos (by omega), ← htl]
                exact Ent.trans (B := pt b (cob [.slice a4 (M.length + 1 - 1) c4, .bool true] 161) :: osl 163 7 (.slice a4 (M.length + 1 - 1) c4) ((M ++ [(⟨k, e, r, l⟩ : Ln)]).tail.flatMap lnV) :: osl 3 1 (.slice af fr.length cf) (fr.flatMap iI) :: R) inferInstance (ent_sh (b := b) (by simp))
            · intro c9
              refine x_skip (n_then ?_)
              refine mid_intro () ?_ ?_ ?_
              · trivial
              · repeat (first | exact sub_nil | refine sub_cons rfl ?_)
              · rw [hO, if_neg (by omega)]
                have hfm : (M.flatMap lnV ++ lnV (⟨k, e, r, l⟩ : Ln)) = (M ++ [(⟨k, e, r, l⟩ : Ln)]).flatMap lnV := by rw [List.flatMap_append, List.flatMap_singleton]
                rw [hfm]
                exact Ent.trans (B := pt b (cob [.slice a3 (M.length + 1) c3, .bool true] 161) :: osl 163 7 (.slice a3 (M.length + 1) c3) ((M ++ [(⟨k, e, r, l⟩ : Ln)]).flatMap lnV) :: osl 3 1 (.slice af fr.length cf) (fr.flatMap iI) :: R) inferInstance (ent_sh (b := b) (by simp))
          · intro _ _
            refine x_seq (x_region (s_val rfl (v_move rfl) (s_val rfl (v_move rfl) (s_val rfl (v_move rfl) ?_))))
            refine s_do rfl (d_call1 Tryz.call150 rfl (shProt_spec W0 _ b (shOld k L) (⟨k, e, r, l⟩ : Ln) (by simp; omega) hOm r l)) ?_
            rintro _ B_ ⟨rfl, hB_⟩
            obtain rfl := hB_.symm
            refine x_nil (n_then (x_seq (x_region (s_val rfl (v_move rfl) (s_val rfl (v_assign rfl) (s_val rfl (v_assign rfl) (x_nil (n_then (x_ret (x_done (.inl rfl) (.cons (r_tmp rfl) (.cons (r_tmp rfl) .nil)) ?_))))))))))
            exact ⟨_, ⟨af, cf, rfl, rfl⟩, inferInstance⟩
end Go.Proofs.YtllkdnadmmjehaaGreatDoor
namespace Go.Proofs.YtllkdnadmmjehaaGreatDoor
open Go.RowKit
set_option linter.unusedSimpArgs false
set_option linter.unusedVariables false
set_option maxRecDepth 20000
def drE (pg : List Pl) (n : Int) : Int := if isP n then (if thereB pg n then 0 else 3) else 1
def drP (pg : List Pl) (n : Int) : List Pl := if thereB pg n then pg.set n.toNat (0, 0) else pg
theorem drP_ok {pg : List Pl} {n : Int} (h : Pgs pg) : Pgs (drP pg n) := by
  unfold drP; split
  · refine ⟨by simp [h.len], fun m hm hne => ?_⟩
    unfold plAt at hne ⊢
    by_cases e : n.toNat = m
    · subst e
      simp only [List.getD_eq_getElem?_getD, List.getElem?_set, if_true] at hne
      rw [if_pos (by rw [h.len]; exact hm)] at hne
      exact absurd rfl hne
    · simp only [List.getD_eq_getElem?_getD, List.getElem?_set_ne e] at hne ⊢
      have := h.ok m hm
      unfold plAt at this
      simp only [List.getD_eq_getElem?_getD] at this
      exact this hne
  · exact h
theorem gmDropA_spec (W0 : World) (R : List HP) (b : Nat) (pg : List Pl) (h : Pgs pg) (n : Int) : Spec Tryz.prog W0 37 [.pointer (some ⟨b, 0, none⟩), .int .i64 n] (pt b (gmO pg) :: R)
    (fun v B => v = .int .i64 (drE pg n) ∧ B = pt b (gmO (drP pg n)) :: R) := by
  have hl := h.len
  refine spec_body Tryz.func37 Tryz.ntmps37 rfl rfl ?_
  refine x_seq (x_region (s_val rfl (v_assign rfl) (x_nil (n_then (x_seq (x_block (x_seq (x_region (s_val rfl (v_move rfl) (s_do rfl (d_call1 Tryz.call53 rfl (gmNone_spec W0 _ b pg h)) ?_))))))))))
  rintro _ B_ ⟨rfl, hB_⟩
  obtain rfl := hB_.symm
  refine s_val rfl (v_assign rfl) (x_nil (n_then ?_))
  refine x_if rfl ?_ ?_
  · intro c1
    exact absurd c1 (by decide)
  · intro c1
    refine x_seq (x_region (s_val rfl (v_move rfl) (s_do rfl (d_call Tryz.call56 rfl (gmPage_spec W0 _ n)) ?_)))
    rintro _ B_ ⟨rfl, hB_⟩
    obtain rfl := hB_.symm
    refine s_val rfl (v_not rfl) (s_val rfl (v_assign rfl) (x_nil (n_then ?_)))
    refine x_if rfl ?_ ?_
    · intro c3
      refine x_seq (x_region (s_val rfl (v_assign rfl) (x_nil (n_then (x_ret (r_block (r_then (x_done (.inl rfl) (.cons (r_tmp rfl) .nil) ?_))))))))
      have hp : isP n = false := by simpa using c3
      have ht : thereB pg n = false := by simp [thereB, hp]
      exact ⟨_, ⟨by simp [pack, drE, hp], by rw [drP, ht, if_neg (by decide)]⟩, inferInstance⟩
    · intro c3
      have hp : isP n = true := by simpa using c3
      refine x_seq (x_region (s_val rfl (v_move rfl) (s_val rfl (v_move rfl) (s_do rfl (d_call1 Tryz.call54 rfl (gmThere_spec W0 _ b pg h n)) ?_))))
      rintro _ B_ ⟨rfl, hB_⟩
      obtain rfl := hB_.symm
      refine s_val rfl (v_not rfl) (s_val rfl (v_assign rfl) (x_nil (n_then ?_)))
      refine x_if rfl ?_ ?_
      · intro c5
        refine x_seq (x_region (s_val rfl (v_assign rfl) (x_nil (n_then (x_ret (r_block (r_then (x_done (.inl rfl) (.cons (r_tmp rfl) .nil) ?_))))))))
        have ht : thereB pg n = false := by simpa using c5
        exact ⟨_, ⟨by simp [pack, drE, hp, ht], by rw [drP, ht, if_neg (by decide)]⟩, inferInstance⟩
      · intro c5
        have ht : thereB pg n = true := by simpa using c5
        obtain ⟨i, rfl, hi⟩ := isP_nat hp
        refine x_skip (n_block (n_then (x_seq (x_region (s_val rfl (v_move rfl) (s_val rfl (v_move rfl) (s_val rfl (v_build Tryz.underlying70 Tryz.zeroValue70 (sized_cons Tryz.sizeOf3 (sized_cons Tryz.sizeOf3 sized_nil)) fil_nil) ?_)))))))
        refine s_val rfl (v_nilCheck rfl) ?_
        refine s_val rfl (v_fieldAddr rfl Tryz.underlying129 rfl Tryz.sizeOf80 rfl (by first | exact Nat.zero_add _ | rfl)) ?_
        refine s_val rfl (v_idxArr Tryz.underlying80 Tryz.sizeOf70 rfl rfl rfl hi (by first | exact Nat.zero_add _ | rfl)) ?_
        refine s_do0 (d_storeAgg Tryz.sizeOf70 rfl rfl rfl rfl (by rw [pg_len, hl]; omega) (pg_set (p := (0, 0)) (by omega))) ?_
        rintro _ _ rfl
        refine x_nil (n_then (x_seq (x_region (s_val rfl (v_assign rfl) (x_nil (n_then (x_ret (x_done (.inl rfl) (.cons (r_tmp rfl) .nil) ?_))))))))
        rw [show drP pg i = pg.set i (0, 0) by rw [drP, if_pos ht, Int.toNat_natCast]]
        exact ⟨_, ⟨by simp [pack, drE, hp, ht], rfl⟩, inferInstance⟩
theorem rg_del {pg : List Pl} {i : Nat} (h : pg.length = 12) (hi : i < 12) : setR ((pg.map thV ++ pg.flatMap plV).set (i * 1) (.bool false)) (12 + i * 2) (plV (0, 0)) = (pg.set i (0, 0)).map thV ++ (pg.set i (0, 0)).flatMap plV := by
  have ht : thV (0, 0) = .bool false := by rfl
  rw [Nat.mul_one, List.set_append_left _ _ (by simp; omega), ← ht, ← List.map_set]
  have e := setR_back (plV (0, 0)) ((pg.set i (0, 0)).map thV) (pg.flatMap plV) (i * 2)
  rw [show ((pg.set i (0, 0)).map thV).length = 12 by simp [h]] at e
  rw [e]
  have := pg_set (pg := pg) (sp := []) (n := i) (p := (0, 0)) (by omega)
  rw [List.append_nil, List.append_nil] at this
  rw [this]
theorem rgDrop_spec (W0 : World) (R : List HP) (b : Nat) (pg : List Pl) (h : Pgs pg) (n : Int) : Spec Tryz.prog W0 38 [.pointer (some ⟨b, 0, none⟩), .int .i64 n] (pt b (rgO pg) :: R)
    (fun v B => v = .int .i64 (drE pg n) ∧ B = pt b (rgO (drP pg n)) :: R) := by
  have hl := h.len
  refine spec_body Tryz.func38 Tryz.ntmps38 rfl rfl ?_
  refine x_seq (x_region (s_val rfl (v_assign rfl) (x_nil (n_then (x_seq (x_seq (x_region (s_val rfl (v_move rfl) (s_do rfl (d_call Tryz.call58 rfl (rgIs_spec W0 _ n)) ?_)))))))))
  rintro _ B_ ⟨rfl, hB_⟩
  obtain rfl := hB_.symm
  refine s_val rfl (v_not rfl) (x_nil (n_then ?_))
  refine x_if rfl ?_ ?_
  · intro c1
    refine x_seq (x_region (s_val rfl (v_assign rfl) (x_nil (n_then (x_ret (r_then (x_done (.inl rfl) (.cons (r_tmp rfl) .nil) ?_)))))))
    have hp : isP n = false := by simpa using c1
    have ht : thereB pg n = false := by simp [thereB, hp]
    exact ⟨_, ⟨by simp [pack, drE, hp], by rw [drP, ht, if_neg (by decide)]⟩, inferInstance⟩
  · intro c1
    have hp : isP n = true := by simpa using c1
    obtain ⟨i, hni, hi⟩ := isP_nat hp
    have htr := th_row (pg := pg) (sp := pg.flatMap plV) (i := i) (by omega)
    have hth : thereB pg n = decide (plAt pg i ≠ (0, 0)) := by rw [thereB, hp]; simp [hni]
    refine x_skip (n_then (x_seq (x_seq (x_region (s_val rfl (v_move rfl) (s_val rfl (v_move rfl) (s_val rfl (v_nilCheck rfl) ?_)))))))
    refine s_val rfl (v_fieldAddr rfl Tryz.underlying82 rfl Tryz.sizeOf41 rfl (by first | exact Nat.zero_add _ | rfl)) ?_
    refine s_val rfl (v_idxArr Tryz.underlying41 Tryz.sizeOf4 rfl rfl hni hi (by first | exact Nat.zero_add _ | rfl)) ?_
    refine s_val rfl (v_load Tryz.isAgg4 rfl (cells_part (vs := [thV (plAt pg i)]) htr rfl 0 _ rfl)) ?_
    refine s_val rfl (v_not rfl) (x_nil (n_then ?_))
    refine x_if rfl ?_ ?_
    · intro c3
      have ht : thereB pg n = false := by rw [hth]; simpa using c3
      refine x_seq (x_region (s_val rfl (v_assign rfl) (x_nil (n_then (x_ret (r_then (x_done (.inl rfl) (.cons (r_tmp rfl) .nil) ?_)))))))
      exact ⟨_, ⟨by simp [pack, drE, hp, ht], by rw [drP, ht, if_neg (by decide)]⟩, inferInstance⟩
    · intro c3
      have ht : thereB pg n = true := by rw [hth]; simpa using c3
      refine x_skip (n_then (x_seq (x_region (s_val rfl (v_move rfl) (s_val rfl (v_move rfl) (s_val rfl (v_nilCheck rfl) ?_))))))
      refine s_val rfl (v_fieldAddr rfl Tryz.underlying82 rfl Tryz.sizeOf41 rfl (by first | exact Nat.zero_add _ | rfl)) ?_
      refine s_val rfl (v_idxArr Tryz.underlying41 Tryz.sizeOf4 rfl rfl hni hi (by first | exact Nat.zero_add _ | rfl)) ?_
      refine s_do0 (d_store Tryz.sizeOf4 rfl rfl rfl (by rw [List.length_append, List.length_map, flat_len plV_len]; omega) rfl) ?_
      rintro _ _ rfl
      refine x_nil (n_then (x_seq (x_region (s_val rfl (v_move rfl) (s_val rfl (v_move rfl) (s_val rfl (v_build Tryz.underlying70 Tryz.zeroValue70 (sized_cons Tryz.sizeOf3 (sized_cons Tryz.sizeOf3 sized_nil)) fil_nil) ?_))))))
      refine s_val rfl (v_nilCheck rfl) ?_
      refine s_val rfl (v_fieldAddr rfl Tryz.underlying82 rfl Tryz.sizeOf80 rfl (by first | exact Nat.zero_add _ | rfl)) ?_
      refine s_val rfl (v_idxArr Tryz.underlying80 Tryz.sizeOf70 rfl rfl hni hi (by first | exact Nat.zero_add _ | rfl)) ?_
      refine s_do0 (d_storeAgg Tryz.sizeOf70 rfl rfl rfl rfl (by rw [List.length_set, List.length_append, List.length_map, flat_len plV_len]; omega) (rg_del hl hi)) ?_
      rintro _ _ rfl
      refine x_nil (n_then (x_seq (x_region (s_val rfl (v_assign rfl) (x_nil (n_then (x_ret (x_done (.inl rfl) (.cons (r_tmp rfl) .nil) ?_))))))))
      rw [show drP pg n = pg.set i (0, 0) by rw [drP, if_pos ht, hni, Int.toNat_natCast]]
      exact ⟨_, ⟨by simp [pack, drE, hp, ht], rfl⟩, inferInstance⟩
end Go.Proofs.YtllkdnadmmjehaaGreatDoor
namespace Go.Proofs.YtllkdnadmmjehaaGreatDoor
open Go.RowKit
set_option linter.unusedSimpArgs false
set_option linter.unusedVariables false
theorem rtB_iff {fr : List Frm} {pg : List Pl} {va : Nat} {a : Int} : rtB fr pg va a = true ↔ tblB fr.length pg a (va / 1024) = true ∧ tabF (tblW fr pg a (va / 1024)) = 0 := by simp [rtB]
structure WkOk (fr : List Frm) (pg : List Pl) (root : Int) (va : Nat) : Prop where
  lim : va < 16384
  rb : rtB fr pg va root = true
  lt : tblB fr.length pg (rtA fr pg va root) (va / 64) = true
  eq : wkR fr pg root va = ⟨lfOn (tblW fr pg (rtA fr pg va root) (va / 64)), lfR (tblW fr pg (rtA fr pg va root) (va / 64)), lfP (tblW fr pg (rtA fr pg va root) (va / 64)), 0, root, rtA fr pg va root⟩
  lf : leafF (tblW fr pg (rtA fr pg va root) (va / 64)) = 0
theorem wk_ok {fr : List Frm} {pg : List Pl} {root : Int} {va : Nat} (h : (wkR fr pg root va).fault = 0) : WkOk fr pg root va := by
  unfold wkR at h
  by_cases h1 : va < 16384
  · rw [if_pos h1] at h
    by_cases h2 : rtB fr pg va root = true
    · rw [if_pos h2] at h
      have hb := rtB_iff.1 h2
      simp only [wkQ, lfS] at h
      by_cases h3 : tblB fr.length pg (rtA fr pg va root) (va / 64) = true
      · rw [if_pos h3] at h
        refine ⟨h1, h2, h3, ?_, h⟩
        rw [wkR, if_pos h1, if_pos h2]
        simp only [wkQ, lfS]
        rw [if_pos h3, rtS, if_pos hb.1]
        simp only [ws0]
        rw [show leafF (tblW fr pg (rtA fr pg va root) (va / 64)) = 0 from h]
      · rw [if_neg h3] at h
        exact absurd h (by show ¬ (3 : Int) = 0; decide)
    · rw [if_neg h2] at h
      simp only [wkQ, rtS] at h
      by_cases h3 : tblB fr.length pg root (va / 1024) = true
      · rw [if_pos h3] at h
        exact absurd (rtB_iff.2 ⟨h3, h⟩) h2
      · rw [if_neg h3] at h
        exact absurd h (by show ¬ (3 : Int) = 0; decide)
  · rw [if_neg h1] at h
    simp only [wkQ] at h
    rw [if_neg h1] at h
    exact absurd h (by show ¬ (2 : Int) = 0; decide)
def Same (fr : List Frm) (pg : List Pl) (fr' : List Frm) (pg' : List Pl) (t : Int) : Prop := ∀ i, tblB fr'.length pg' t i = tblB fr.length pg t i ∧ tblW fr' pg' t i = tblW fr pg t i
theorem wk_same {fr fr' : List Frm} {pg pg' : List Pl} {root : Int} {va : Nat} (h : WkOk fr pg root va) (h1 : Same fr pg fr' pg' root) (h2 : Same fr pg fr' pg' (rtA fr pg va root)) : wkR fr' pg' root va = wkR fr pg root va := by
  have ea : rtA fr' pg' va root = rtA fr pg va root := by unfold rtA; rw [(h1 _).1, (h1 _).2]
  have eb : rtB fr' pg' va root = rtB fr pg va root := by unfold rtB; rw [(h1 _).1, (h1 _).2]
  have es : ∀ s, rtS fr' pg' va root s = rtS fr pg va root s := fun s => by unfold rtS; rw [(h1 _).1, (h1 _).2]
  rw [wkR, wkR, if_pos h.lim, if_pos h.lim, eb, h.rb, if_pos rfl, if_pos rfl]
  simp only [wkQ]
  rw [ea, es]
  unfold lfS
  rw [(h2 _).1, (h2 _).2]
theorem pg_div {t i j : Nat} (h : j < 4) : (64 * t + 4 * (i % 16) + j) / 64 = t := by omega
theorem wk_there {fr : List Frm} {pg : List Pl} {t : Int} {i : Nat} (h : tblB fr.length pg t i = true) : thereB pg t = true := by
  obtain ⟨h1, h2⟩ := tblB_iff.1 h
  obtain ⟨k, rfl⟩ : ∃ k : Nat, t = (k : Int) := ⟨t.toNat, by omega⟩
  have := (ownB_nat.1 h2).2 0 (by decide)
  rw [show pgI (tblPa (k : Int) i + 0) = (k : Int) by rw [show tblPa (k : Int) i = 64 * k + 4 * (i % 16) from rfl, pgI, pg_div (by decide)]] at this
  exact (frmB_iff.1 this).1
theorem same_of {fr fr' : List Frm} {pg pg' : List Pl} {t : Int} (hl : fr'.length = fr.length) (ht : thereB pg' t = thereB pg t) (hg : gGot pg' t = gGot pg t) (hd : thereB pg t = true → ∀ o : Nat, o < 64 → ldN fr' (gGot pg t).1 o 1 = ldN fr (gGot pg t).1 o 1) : Same fr pg fr' pg' t := by
  intro i
  by_cases h0 : 0 ≤ t ∧ t < 8
  · obtain ⟨k, rfl⟩ : ∃ k : Nat, t = (k : Int) := ⟨t.toNat, by omega⟩
    have hpa : tblPa (k : Int) i = 64 * k + 4 * (i % 16) := rfl
    have hpg : ∀ j, j < 4 → pgI (tblPa (k : Int) i + j) = (k : Int) := fun j hj => by
      rw [hpa, pgI, pg_div hj]
    have hown : ownB fr'.length pg' (tblPa (k : Int) i) 4 = ownB fr.length pg (tblPa (k : Int) i) 4 := by
      have e : ∀ j, j < 4 → frmB fr'.length pg' (pgI (tblPa (k : Int) i + j)) = frmB fr.length pg (pgI (tblPa (k : Int) i + j)) := fun j hj => by
        rw [hpg j hj, frmB, frmB, ht, hg, hl]
      unfold ownB
      congr 1
      apply decide_eq_decide.2
      unfold ownA
      constructor
      · intro q j hj; rw [← e j hj]; exact q j hj
      · intro q j hj; rw [e j hj]; exact q j hj
    have hb : tblB fr'.length pg' (k : Int) i = tblB fr.length pg (k : Int) i := by unfold tblB; rw [hown]
    refine ⟨hb, ?_⟩
    unfold tblW
    rw [hb]
    by_cases hbt : tblB fr.length pg (k : Int) i = true
    case neg => rw [if_neg hbt, if_neg hbt]
    have hr : rdL fr' pg' (tblPa (k : Int) i) 4 = rdL fr pg (tblPa (k : Int) i) 4 := by
      unfold rdL
      apply List.map_congr_left
      intro j hj
      have hj := List.mem_range.1 hj
      unfold rdv whr
      rw [hpg j hj, hg]
      exact hd (wk_there hbt) _ (Nat.mod_lt _ (by decide))
    rw [hr]
  · have h1 : ∀ n p, tblB n p t i = false := fun n p => by unfold tblB; rw [decide_eq_false h0, Bool.false_and]
    refine ⟨by rw [h1, h1], ?_⟩
    unfold tblW; rw [h1, h1, if_neg (by decide), if_neg (by decide)]
theorem ld_other {fr : List Frm} {f f' off w o k : Int} {x : Nat} (h : f' ≠ f) : ldN (svF fr f off w x) f' o k = ldN fr f' o k := by
  unfold svF
  split
  · rename_i hs
    simp only [svOk, Bool.and_eq_true] at hs
    obtain ⟨i, rfl, hi⟩ := isF_nat hs.1
    unfold ldN
    rw [List.length_set]
    split
    · rename_i hf
      obtain ⟨j, rfl, hj⟩ := isF_nat hf
      rw [Int.toNat_natCast, Int.toNat_natCast]
      congr 1
      simp only [List.getD_eq_getElem?_getD]
      rw [List.getElem?_set_ne (by omega)]
    · rfl
  · rfl
structure LOk (fr : List Frm) (pg : List Pl) (d : Nat) (x : Ln) : Prop where
  own : (0 ≤ x.rt ∧ x.rt < 8) ∧ (0 ≤ x.lf ∧ x.lf < 8)
  at_ : thereB pg x.e.1 = true ∧ (gGot pg x.e.1).1 = x.e.2.1
  al : ∀ k, needOk k = true → bitR x.e.2.2 (needR k) = true → alwE pg x.e.1 k = 0
  r : 0 ≤ x.e.2.2 ∧ x.e.2.2 < 16
  wk : Nat.testBit d x.rt.toNat = false → Nat.testBit d x.lf.toNat = false → ∀ va, va < 16384 → ((va / 64 : Nat) : Int) = x.k.2 → WkOk fr pg x.k.1 va ∧ x.k.1 = x.rt ∧ rtA fr pg va x.k.1 = x.lf ∧ (wkR fr pg x.k.1 va).on = true ∧ (wkR fr pg x.k.1 va).p = x.e.1 ∧ ∀ c, c = 1 ∨ c = 2 ∨ c = 4 ∨ c = 8 → bitR x.e.2.2 c = true → bitR (wkR fr pg x.k.1 va).r c = true
theorem alwE_got {pg pg' : List Pl} {n : Int} (ht : thereB pg n = true) (ht' : thereB pg' n = true) (hg : gGot pg' n = gGot pg n) (k : Int) : alwE pg' n k = alwE pg n k := by
  rw [gGot, gGot, if_pos ht, if_pos ht'] at hg
  rw [alwE, alwE, ht, ht', if_pos rfl, if_pos rfl, hg]
theorem LOk.move {fr fr' : List Frm} {pg pg' : List Pl} {d d' : Nat} {x : Ln} (h : LOk fr pg d x) (ht : thereB pg' x.e.1 = true) (hg : gGot pg' x.e.1 = gGot pg x.e.1)
    (hs : ∀ t, t = x.rt ∨ t = x.lf → Nat.testBit d' t.toNat = false → Nat.testBit d t.toNat = false ∧ (thereB pg t = true → Same fr pg fr' pg' t)) : LOk fr' pg' d' x := by
  refine ⟨h.own, ⟨ht, by rw [hg]; exact h.at_.2⟩, fun k hk hb => ?_, h.r, fun h1 h2 va hva hk => ?_⟩
  · rw [alwE_got h.at_.1 ht hg]; exact h.al k hk hb
  · obtain ⟨a1, b1⟩ := hs x.rt (.inl rfl) h1
    obtain ⟨a2, b2⟩ := hs x.lf (.inr rfl) h2
    obtain ⟨q1, q2, q3, q4, q5, q6⟩ := h.wk a1 a2 va hva hk
    have e := wk_same q1 (by rw [q2]; exact b1 (by rw [← q2]; exact wk_there (rtB_iff.1 q1.rb).1)) (by rw [q3]; exact b2 (by rw [← q3]; exact wk_there q1.lt))
    have ef : (wkR fr' pg' x.k.1 va).fault = 0 := by rw [e, q1.eq]
    refine ⟨wk_ok ef, q2, ?_, by rw [e]; exact q4, by rw [e]; exact q5, fun c hc hb => by rw [e]; exact q6 c hc hb⟩
    have e2 := (wk_ok ef).eq
    rw [e, q1.eq] at e2
    have := congrArg WS.leaf e2
    rw [← q3]; exact this.symm
theorem LOk.clean {fr : List Frm} {pg : List Pl} {d : Nat} {x : Ln} (h : LOk fr pg d x) (hc : ∀ n ∈ drL d 12, x.thr ((n : Nat) : Int) = false) : LOk fr pg 0 x := by
  refine ⟨h.own, h.at_, h.al, h.r, fun _ _ => h.wk ?_ ?_⟩
  · rw [← Bool.not_eq_true]; intro q
    have := hc x.rt.toNat (by rw [drL, List.mem_filter, List.mem_range]; exact ⟨by have := h.own; omega, q⟩)
    rw [← Bool.not_eq_true, thr_iff] at this
    exact this (.inl (by have := h.own; omega))
  · rw [← Bool.not_eq_true]; intro q
    have := hc x.lf.toNat (by rw [drL, List.mem_filter, List.mem_range]; exact ⟨by have := h.own; omega, q⟩)
    rw [← Bool.not_eq_true, thr_iff] at this
    exact this (.inr (by have := h.own; omega))
theorem LOk.nar {fr : List Frm} {pg : List Pl} {d : Nat} {x : Ln} (h : LOk fr pg d x) : LOk fr pg d x.nar := by
  have hb : ∀ c, c = 1 ∨ c = 2 ∨ c = 4 ∨ c = 8 → bitR x.nar.e.2.2 c = true → bitR x.e.2.2 c = true := fun c hc hq => by
    obtain ⟨n, hn⟩ : ∃ n : Nat, x.e.2.2 = (n : Int) := ⟨x.e.2.2.toNat, by have := h.r; omega⟩
    have hlt : n < 16 := by have := h.r; omega
    have e1 : x.nar.e.2.2 = noW x.e.2.2 := rfl
    rw [e1, hn] at hq
    rw [hn]
    have key : ∀ n : Nat, n < 16 → ∀ c : Int, c = 1 ∨ c = 2 ∨ c = 4 ∨ c = 8 → bitR (noW (n : Int)) c = true → bitR (n : Int) c = true := by
      intro n hn c hc
      have : n = 0 ∨ n = 1 ∨ n = 2 ∨ n = 3 ∨ n = 4 ∨ n = 5 ∨ n = 6 ∨ n = 7 ∨ n = 8 ∨ n = 9 ∨ n = 10 ∨ n = 11 ∨ n = 12 ∨ n = 13 ∨ n = 14 ∨ n = 15 := by omega
      rcases this with rfl | rfl | rfl | rfl | rfl | rfl | rfl | rfl | rfl | rfl | rfl | rfl | rfl | rfl | rfl | rfl <;> rcases hc with rfl | rfl | rfl | rfl <;> decide
    exact key n hlt c hc hq
  refine ⟨h.own, h.at_, fun k hk hq => h.al k hk (hb _ ?_ hq), ?_, fun h1 h2 va hva hk => ?_⟩
  · unfold needR
    have := of_decide_eq_true hk
    rcases this with rfl | rfl | rfl
    · exact .inr (.inr (.inl rfl))
    · exact .inl rfl
    · exact .inr (.inl rfl)
  · show 0 ≤ noW x.e.2.2 ∧ noW x.e.2.2 < 16
    have := h.r
    unfold noW; split
    · rename_i hw
      have := of_decide_eq_true hw
      omega
    · exact h.r
  · obtain ⟨q1, q2, q3, q4, q5, q6⟩ := h.wk h1 h2 va hva hk
    exact ⟨q1, q2, q3, q4, q5, fun c hc hq => q6 c hc (hb c hc hq)⟩
def pl20 (n : Nat) : Pl := (((11 - n : Nat) : Int), ((3 - 2 * (n / 9) : Nat) : Int))
structure MOk (fr : List Frm) (pg : List Pl) (d : Nat) (L : List Ln) (TL : List It) : Prop where
  F : Frs fr
  n : fr.length = 12
  dl : d < 4096
  P : Pgs pg
  pl : ∀ n : Nat, n < 12 → plAt pg n = (0, 0) ∨ plAt pg n = pl20 n
  ti : TI L TL
  ln : ∀ x ∈ L, LOk fr pg d x
theorem got_pl {pg : List Pl} (hp : ∀ n : Nat, n < 12 → plAt pg n = (0, 0) ∨ plAt pg n = pl20 n) {t : Int} (ht : thereB pg t = true) : ∃ n : Nat, t = (n : Int) ∧ n < 12 ∧ gGot pg t = pl20 n := by
  have h1 := ht
  simp only [thereB, Bool.and_eq_true, decide_eq_true_eq] at h1
  obtain ⟨i, rfl, hi⟩ := isP_nat h1.1
  refine ⟨i, rfl, hi, ?_⟩
  rw [gGot, if_pos ht, Int.toNat_natCast]
  rcases hp i hi with q | q
  · rw [Int.toNat_natCast] at h1; exact absurd q h1.2
  · exact q
theorem got_inj {pg : List Pl} (hp : ∀ n : Nat, n < 12 → plAt pg n = (0, 0) ∨ plAt pg n = pl20 n) {s t : Int} (hs : thereB pg s = true) (ht : thereB pg t = true) (h : (gGot pg s).1 = (gGot pg t).1) : s = t := by
  obtain ⟨i, rfl, hi, e1⟩ := got_pl hp hs
  obtain ⟨j, rfl, hj, e2⟩ := got_pl hp ht
  rw [e1, e2, pl20, pl20] at h
  dsimp only at h; omega
theorem MOk.save {fr : List Frm} {pg : List Pl} {d d' : Nat} {L : List Ln} {TL : List It} (h : MOk fr pg d L TL) {p : Int} (hp : thereB pg p = true) (off w : Int) (x : Nat) (hd' : d' < 4096)
    (hk : ∀ t : Nat, Nat.testBit d' t = false → Nat.testBit d t = false) (hno : ∀ y ∈ L, ∀ t, t = y.rt ∨ t = y.lf → Nat.testBit d' t.toNat = false → t ≠ p) : MOk (svF fr (gGot pg p).1 off w x) pg d' L TL := by
  refine ⟨svF_ok h.F, svF_len.trans h.n, hd', h.P, h.pl, h.ti, fun y hy => ?_⟩
  have hl := h.ln y hy
  by_cases hc : Nat.testBit d' y.rt.toNat = false ∧ Nat.testBit d' y.lf.toNat = false
  · refine hl.move hl.at_.1 rfl fun t ht hb => ⟨hk _ hb, fun _ => ?_⟩
    refine same_of svF_len rfl rfl fun q o ho => ?_
    apply ld_other
    intro e
    exact hno y hy t ht hb (got_inj h.pl q hp e)
  · refine ⟨hl.own, hl.at_, hl.al, hl.r, fun h1 h2 => absurd ⟨h1, h2⟩ hc⟩
end Go.Proofs.YtllkdnadmmjehaaGreatDoor
