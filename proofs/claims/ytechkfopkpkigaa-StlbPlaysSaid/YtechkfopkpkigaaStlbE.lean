/-
  Layer 18 (stlb): what is forgotten, and what loses rights.
-/
import Derived.Test.YtechkfopkpkigaaStlbD
import Derived.Test.YtechkfopkpkigaaClear
namespace Go.Proofs.Ytechkfopkpkigaa
open Go.RowKit
set_option linter.unusedSimpArgs false
set_option linter.unusedVariables false
set_option maxRecDepth 20000

/-! ### Heaps from below -/
def HeapF (lo : Nat) (l : List It) (n : Nat) : Prop := ∀ c, c < n → 0 < c → lo ≤ (c - 1) / 2 → us l ((c - 1) / 2) ≤ us l c
def HoleF (lo : Nat) (l : List It) (i n : Nat) : Prop := ∀ c, c < n → 0 < c → (lo ≤ (c - 1) / 2 → c ≠ i → (c - 1) / 2 ≠ i → us l ((c - 1) / 2) ≤ us l c) ∧ ((c - 1) / 2 = i → lo < i → us l ((i - 1) / 2) ≤ us l c)
theorem holeF_swap {lo : Nat} {l : List It} {i j n : Nat} (h : HoleF lo l i n) (hlo : lo ≤ i) (hn : n ≤ l.length) (hj : j < n) (hc : (j - 1) / 2 = i) (h0 : 0 < j) (hlt : us l j < us l i)
    (hmin : ∀ c, c < n → 0 < c → (c - 1) / 2 = i → us l j ≤ us l c) : HoleF lo (swapL l i j) j n ∧ us (swapL l i j) ((j - 1) / 2) ≤ us (swapL l i j) j := by
  have hij : i < j := by omega
  have sw := us_swapL (l := l) (i := i) (j := j) (by omega) (by omega)
  refine ⟨fun c hcn hc0 => ⟨fun h3 h1 h2 => ?_, fun h1 h2 => ?_⟩, ?_⟩
  · rw [sw, sw]
    by_cases e1 : c = i
    · subst e1
      have := (h j hj h0).2 hc (by omega)
      rw [if_neg (by omega), if_neg (by omega), if_pos rfl]; exact this
    · by_cases e2 : (c - 1) / 2 = i
      · rw [if_pos e2, if_neg e1, if_neg h1]; exact hmin c hcn hc0 e2
      · rw [if_neg e2, if_neg h2, if_neg e1, if_neg h1]; exact (h c hcn hc0).1 h3 e1 e2
  · rw [hc, sw, sw, if_pos rfl, if_neg (by omega), if_neg (by omega)]
    rw [← h1]; exact (h c hcn hc0).1 (by omega) (by omega) (by omega)
  · rw [hc, sw, sw, if_pos rfl, if_neg (by omega), if_pos rfl]; omega
theorem holeF_heap {lo : Nat} {l : List It} {i n : Nat} (h : HoleF lo l i n) (hmin : ∀ c, c < n → 0 < c → (c - 1) / 2 = i → us l i ≤ us l c) (hp : lo < i → us l ((i - 1) / 2) ≤ us l i) : HeapF lo l n := fun c hc h0 h3 => by
  by_cases e1 : (c - 1) / 2 = i
  · rw [e1]; exact hmin c hc h0 e1
  · by_cases e2 : c = i
    · subst e2; exact hp (by omega)
    · exact (h c hc h0).1 h3 e2 e1
theorem heapF_hole {lo : Nat} {l : List It} {n : Nat} (h : HeapF (lo + 1) l n) : HoleF lo l lo n := fun c hc h0 => ⟨fun h3 _ h2 => h c hc h0 (by omega), fun _ h => absurd h (Nat.lt_irrefl _)⟩
theorem heapDownF_spec (W0 : World) (R : List HP) (b : Nat) (its : List It) (tl : List Value) (i0 n : Nat) (hn : n ≤ its.length) (hN : n < 1000) (hi : i0 ≤ n) (hH : HoleF i0 its i0 n) :
    Spec Try.prog W0 145 [rowI b, .int .i64 i0, .int .i64 n] (rowH b (its, tl) :: R) (fun v B => ∃ l m, v = .bool m ∧ B = rowH b (l, tl) :: R ∧ l.Perm its ∧ HeapF i0 l n) := by
  refine spec_body Try.func145 Try.ntmps145 rfl rfl ?_
  refine x_seq ?_
  refine x_region ?_
  refine s_val rfl (v_assign rfl) ?_
  refine x_nil ?_
  refine n_then ?_
  refine x_seq ?_
  refine x_region ?_
  refine s_val rfl (v_move rfl) ?_
  refine s_val rfl (v_assign rfl) ?_
  refine x_nil ?_
  refine n_then ?_
  refine x_seq ?_
  refine x_block ?_
  refine x_loop (fun X : List It × Nat => X.1.Perm its ∧ i0 ≤ X.2 ∧ HoleF i0 X.1 X.2 n ∧ (i0 < X.2 → us X.1 ((X.2 - 1) / 2) ≤ us X.1 X.2) ∧ X.2 ≤ n) (fun X => [(0, rowI b), (1, .int .i64 i0), (2, .int .i64 n), (7, .int .i64 X.2)]) (fun X => rowH b (X.1, tl) :: R) (fun X => n - X.2) (its, i0) ?_ ?_ ?_ ?_
  · exact ⟨List.Perm.refl _, Nat.le_refl _, hH, fun h => absurd h (Nat.lt_irrefl _), hi⟩
  · repeat (first | exact sub_nil | refine sub_cons rfl ?_)
  · exact inferInstance
  · intro ⟨l, i⟩ ⟨hp, hi0, hl, hg, hin⟩
    have hlen := hp.length_eq
    simp only at hp hi0 hl hg hin hlen ⊢
    refine x_block ?_
    refine x_seq ?_
    refine x_region ?_
    refine s_val rfl (v_move rfl) ?_
    refine s_val rfl (v_mul rfl rfl (by first | exact w64 (by omega) | rfl)) ?_
    refine s_val rfl (v_add rfl rfl (by rw [w64 (by omega)]; omega : IntKind.wrap .i64 (2 * (i : Int) + 1) = ((2 * i + 1 : Nat) : Int))) ?_
    refine s_val rfl (v_assign rfl) ?_
    refine x_nil ?_
    refine n_then ?_
    refine x_seq ?_
    refine x_seq ?_
    refine x_region ?_
    refine s_val rfl (v_move rfl) ?_
    refine s_val rfl (v_move rfl) ?_
    refine s_val rfl (v_geq rfl rfl) ?_
    refine s_val rfl (v_move rfl) ?_
    refine s_or rfl rfl rfl ?_ ?_
    · intro g3_4
      refine s_no rfl rfl rfl rfl ?_
      refine s_val rfl (v_pick_t rfl rfl) ?_
      refine x_nil ?_
      refine n_then ?_
      refine x_ift rfl ?_
      refine x_exit ?_
      refine e_then ?_
      refine e_block_ne rfl ?_
      refine e_then ?_
      refine e_block ?_
      refine n_then ?_
      refine x_seq ?_
      refine x_region ?_
      refine s_val rfl (v_move rfl) ?_
      refine s_val rfl (v_move rfl) ?_
      refine s_val rfl (v_gtr rfl rfl) ?_
      refine s_val rfl (v_assign rfl) ?_
      refine x_nil ?_
      refine n_then ?_
      refine x_ret ?_
      refine x_done (.inl rfl) (.cons (r_tmp rfl) .nil) ?_
      refine ⟨_, ⟨l, decide (i0 < i), by simp [pack], rfl, hp, holeF_heap hl ?_ hg⟩, inferInstance⟩
      first | (intro c hc h0 h1; exfalso; omega) | (intro c hc h0 h1; have := hmin c hc h0 h1; simp at c8; omega)
    · intro g3_4
      refine s_val rfl (v_move rfl) ?_
      refine s_yes rfl rfl ?_
      refine s_val rfl (v_lss rfl rfl) ?_
      refine s_val rfl (v_pick_f rfl rfl) ?_
      refine x_nil ?_
      refine n_then ?_
      refine x_if rfl ?_ ?_
      · intro c3
        omega
      · intro c3
        refine x_skip ?_
        refine n_then ?_
        refine x_seq ?_
        refine x_region ?_
        refine s_val rfl (v_move rfl) ?_
        refine s_val rfl (v_assign rfl) ?_
        refine x_nil ?_
        refine n_then ?_
        refine x_cut (fun j : Nat => (j - 1) / 2 = i ∧ 0 < j ∧ j < n ∧ ∀ c, c < n → 0 < c → (c - 1) / 2 = i → us l j ≤ us l c) (fun j => [(0, rowI b), (1, .int .i64 i0), (2, .int .i64 n), (7, .int .i64 i), (9, .int .i64 j)]) (fun j => rowH b (l, tl) :: R) ?_ ?_
        · skip
          refine x_seq ?_
          refine x_region ?_
          refine s_val rfl (v_move rfl) ?_
          refine s_val rfl (v_add rfl rfl (by rw [w64 (by omega)]; omega : IntKind.wrap .i64 (((2 * i + 1 : Nat) : Int) + 1) = ((2 * i + 2 : Nat) : Int))) ?_
          refine s_val rfl (v_assign rfl) ?_
          refine x_nil ?_
          refine n_then ?_
          refine x_seq ?_
          refine x_region ?_
          refine s_val rfl (v_move rfl) ?_
          refine s_val rfl (v_move rfl) ?_
          refine s_val rfl (v_lss rfl rfl) ?_
          refine s_val rfl (v_move rfl) ?_
          refine s_and rfl rfl rfl ?_ ?_
          · intro g6_4
            refine s_val rfl (v_move rfl) ?_
            refine s_yes rfl rfl ?_
            refine s_val rfl (v_move rfl) ?_
            refine s_yes rfl rfl ?_
            refine s_val rfl (v_move rfl) ?_
            refine s_yes rfl rfl ?_
            refine s_do rfl (d_invoke1 rfl ((fun w => m_less w _)) Try.call242 rfl (rowLess_spec W0 _ b l tl (2 * i + 2) (2 * i + 1) (by omega) (by omega))) ?_
            rintro _ B_ ⟨rfl, hB_⟩
            obtain rfl := hB_.symm
            refine s_val rfl (v_pick_t rfl rfl) ?_
            refine x_nil ?_
            refine n_then ?_
            refine x_if rfl ?_ ?_
            · intro c6
              refine x_region ?_
              refine s_val rfl (v_move rfl) ?_
              refine s_val rfl (v_assign rfl) ?_
              refine x_nil ?_
              refine n_then ?_
              refine mid_intro (2 * i + 2) ?_ ?_ ?_
              · refine ⟨by omega, by omega, by omega, fun c hc h0 h1 => ?_⟩
                have : c = 2 * i + 1 ∨ c = 2 * i + 2 := by omega
                rcases this with rfl | rfl <;> omega
              · repeat (first | exact sub_nil | refine sub_cons rfl ?_)
              · exact inferInstance
            · intro c6
              refine x_skip ?_
              refine n_then ?_
              refine mid_intro (2 * i + 1) ?_ ?_ ?_
              · refine ⟨by omega, by omega, by omega, fun c hc h0 h1 => ?_⟩
                have : c = 2 * i + 1 ∨ c = 2 * i + 2 := by omega
                rcases this with rfl | rfl <;> omega
              · repeat (first | exact sub_nil | refine sub_cons rfl ?_)
              · exact inferInstance
          · intro g6_4
            refine s_no rfl rfl rfl rfl ?_
            refine s_no rfl rfl rfl rfl ?_
            refine s_no rfl rfl rfl rfl ?_
            refine s_val rfl (v_pick_f rfl rfl) ?_
            refine x_nil ?_
            refine n_then ?_
            refine x_iff rfl ?_
            refine x_skip ?_
            refine n_then ?_
            refine mid_intro (2 * i + 1) ?_ ?_ ?_
            · refine ⟨by omega, by omega, by omega, fun c hc h0 h1 => ?_⟩
              have : c = 2 * i + 1 ∨ c = 2 * i + 2 := by omega
              rcases this with rfl | rfl <;> omega
            · repeat (first | exact sub_nil | refine sub_cons rfl ?_)
            · exact inferInstance
        · intro j ⟨hj, hj0, hjn, hmin⟩
          refine x_seq ?_
          refine x_seq ?_
          refine x_region ?_
          refine s_val rfl (v_move rfl) ?_
          refine s_val rfl (v_move rfl) ?_
          refine s_val rfl (v_move rfl) ?_
          refine s_do rfl (d_invoke1 rfl ((fun w => m_less w _)) Try.call242 rfl (rowLess_spec W0 _ b l tl j i (by omega) (by omega))) ?_
          rintro _ B_ ⟨rfl, hB_⟩
          obtain rfl := hB_.symm
          refine s_val rfl (v_not rfl) ?_
          refine x_nil ?_
          refine n_then ?_
          refine x_if rfl ?_ ?_
          · intro c8
            refine x_exit ?_
            refine e_then ?_
            refine e_block_ne rfl ?_
            refine e_then ?_
            refine e_block ?_
            refine n_then ?_
            refine x_seq ?_
            refine x_region ?_
            refine s_val rfl (v_move rfl) ?_
            refine s_val rfl (v_move rfl) ?_
            refine s_val rfl (v_gtr rfl rfl) ?_
            refine s_val rfl (v_assign rfl) ?_
            refine x_nil ?_
            refine n_then ?_
            refine x_ret ?_
            refine x_done (.inl rfl) (.cons (r_tmp rfl) .nil) ?_
            refine ⟨_, ⟨l, decide (i0 < i), by simp [pack], rfl, hp, holeF_heap hl ?_ hg⟩, inferInstance⟩
            first | (intro c hc h0 h1; exfalso; omega) | (intro c hc h0 h1; have := hmin c hc h0 h1; simp at c8; omega)
          · intro c8
            replace c8 : us l j < us l i := by simpa using c8
            refine x_skip ?_
            refine n_then ?_
            refine x_seq ?_
            refine x_region ?_
            refine s_val rfl (v_move rfl) ?_
            refine s_val rfl (v_move rfl) ?_
            refine s_val rfl (v_move rfl) ?_
            refine s_do rfl (d_invoke1 rfl ((fun w => m_swap w _)) Try.call245 rfl (rowSwap_spec W0 _ b l tl i j (by omega) (by omega))) ?_
            rintro _ B_ ⟨rfl, hB_⟩
            obtain rfl := hB_.symm
            refine x_nil ?_
            refine n_then ?_
            refine x_region ?_
            refine s_val rfl (v_move rfl) ?_
            refine s_val rfl (v_assign rfl) ?_
            refine x_nil ?_
            refine n_block ?_
            refine n_then ?_
            refine inv_intro (swapL l i j, j) ?_ ?_ ?_ ?_
            · have hs := holeF_swap hl hi0 (by omega) hjn hj hj0 c8 hmin
              exact ⟨(swapL_perm (by omega) (by omega)).trans hp, by show i0 ≤ j; omega, hs.1, fun _ => hs.2, by show j ≤ n; omega⟩
            · show n - j < n - i; omega
            · repeat (first | exact sub_nil | refine sub_cons rfl ?_)
            · exact inferInstance
theorem heapInit_spec (W0 : World) (R : List HP) (b : Nat) (its : List It) (tl : List Value) (hN : its.length < 1000) :
    Spec Try.prog W0 153 [rowI b] (rowH b (its, tl) :: R) (fun v B => ∃ l, v = .tuple #[] ∧ B = rowH b (l, tl) :: R ∧ l.Perm its ∧ Heap l l.length) := by
  refine spec_body Try.func153 Try.ntmps153 rfl rfl ?_
  refine x_seq ?_
  refine x_region ?_
  refine s_val rfl (v_move rfl) ?_
  refine s_do rfl (d_invoke1 rfl ((fun w => m_len w _)) Try.call91 rfl (rowLen_spec W0 _ b its tl)) ?_
  rintro _ B_ ⟨rfl, hB_⟩
  obtain rfl := hB_.symm
  refine s_val rfl (v_assign rfl) ?_
  refine x_nil ?_
  refine n_then ?_
  refine x_seq ?_
  refine x_region ?_
  refine s_val rfl (v_move rfl) ?_
  refine s_val rfl (v_quo rfl rfl (by decide) ((congrArg (IntKind.wrap .i64) (tdivN its.length 2)).trans (w64 (by omega)))) ?_
  refine s_val rfl (v_sub rfl rfl (w64 (by omega))) ?_
  refine s_val rfl (v_assign rfl) ?_
  refine x_nil ?_
  refine n_then ?_
  refine x_block ?_
  refine x_loop (fun X : List It × Nat => X.1.Perm its ∧ X.2 ≤ its.length / 2 ∧ HeapF X.2 X.1 its.length) (fun X => [(0, rowI b), (2, .int .i64 (its.length : Nat)), (3, .int .i64 ((X.2 : Int) - 1))]) (fun X => rowH b (X.1, tl) :: R) (fun X => X.2) (its, its.length / 2) ?_ ?_ ?_ ?_
  · exact ⟨List.Perm.refl _, Nat.le_refl _, fun c hc h0 h1 => by dsimp only at h1; omega⟩
  · repeat (first | exact sub_nil | refine sub_cons rfl ?_)
  · exact inferInstance
  · intro ⟨l, k⟩ ⟨hp, hk, hh⟩
    dsimp only at hp hk hh ⊢
    have hlen := hp.length_eq
    refine x_seq ?_
    refine x_seq ?_
    refine x_region ?_
    refine s_val rfl (v_move rfl) ?_
    refine s_val rfl (v_geq rfl rfl) ?_
    refine x_nil ?_
    refine n_then ?_
    refine x_if rfl ?_ ?_
    · intro c2
      refine x_skip ?_
      refine n_then ?_
      refine x_seq ?_
      refine x_block ?_
      obtain ⟨i, rfl⟩ : ∃ i, k = i + 1 := ⟨k - 1, by omega⟩
      have hki : (((i + 1 : Nat) : Int) - 1) = (i : Int) := by omega
      rw [hki]
      refine x_region ?_
      refine s_val rfl (v_move rfl) ?_
      refine s_val rfl (v_move rfl) ?_
      refine s_val rfl (v_move rfl) ?_
      refine s_do rfl (d_call1 Try.call145 rfl (heapDownF_spec W0 _ b l tl i its.length (by omega) hN (by omega) (heapF_hole hh))) ?_
      rintro _ _ ⟨l2, m, rfl, rfl, hp2, hh2⟩
      refine x_nil ?_
      refine n_block ?_
      refine n_then ?_
      refine x_region ?_
      refine s_val rfl (v_move rfl) ?_
      refine s_val rfl (v_sub rfl rfl (w64 (by omega))) ?_
      refine s_val rfl (v_assign rfl) ?_
      refine x_nil ?_
      refine n_then ?_
      refine inv_intro (l2, i) ?_ ?_ ?_ ?_
      · exact ⟨hp2.trans hp, by show i ≤ its.length / 2; omega, hh2⟩
      · show i < i + 1; omega
      · repeat (first | exact sub_nil | refine sub_cons rfl ?_)
      · exact inferInstance
    · intro c2
      refine x_exit ?_
      refine e_then ?_
      refine e_then ?_
      refine e_block ?_
      refine x_done (.inr rfl) .nil ?_
      obtain rfl : k = 0 := by omega
      exact ⟨_, ⟨l, rfl, rfl, hp, fun c hc h0 => hh c (by omega) h0 (Nat.zero_le _)⟩, inferInstance⟩

/-! ### What a closure says of items -/
structure PF (W0 : World) (f : FuncId) (cs : List Value) (C : HP) (p : It → Bool) : Prop where
  call : ∀ args w, (callFunc f args).run Try.prog w = .ok (.enter f args) w
  spec : ∀ x R, Spec Try.prog W0 f ([] ++ [.agg (itemV x).toArray] ++ cs) (kH 0 C :: R) (fun v B => v = .bool (p x) ∧ B = kH 0 C :: R)
theorem allOne_flat {α : Type} {f : α → List Value} (h : ∀ x, allOne (f x) = true) : ∀ l : List α, allOne (l.flatMap f) = true
  | [] => rfl
  | x :: l => by
    have h1 := h x
    have h2 := allOne_flat h l
    simp only [allOne, List.flatMap_cons, List.all_append, Bool.and_eq_true] at h1 h2 ⊢
    exact ⟨h1, h2⟩
theorem itemV_one (x : It) : allOne (itemV x) = true := rfl
theorem cloneIt_spec (W0 : World) (R : List HP) (its : List It) (a : Option Addr) (c : Nat) (hN : its.length < 1000) (hs : SlA (OwnP W0 R) a 6 itemV its) :
    Spec Try.prog W0 152 [.slice a its.length c] R
      (fun v B => ∃ a' c', v = .slice a' its.length c' ∧ B = osl 171 6 (.slice a' its.length c') (its.flatMap itemV) :: R) := by
  refine spec_body Try.func152 Try.ntmps152 rfl rfl ?_
  refine x_seq ?_
  refine x_region ?_
  refine s_val rfl (v_assign rfl) ?_
  refine x_nil ?_
  refine n_then ?_
  refine x_seq ?_
  refine x_seq ?_
  refine x_region ?_
  refine s_val rfl (v_move rfl) ?_
  refine s_val rfl (v_eql_slice_nil Try.underlying83 rfl rfl) ?_
  refine x_nil ?_
  refine n_then ?_
  refine x_if rfl ?_ ?_
  · intro c1
    refine x_seq ?_
    refine x_region ?_
    refine s_val rfl (v_assign rfl) ?_
    refine x_nil ?_
    refine n_then ?_
    refine x_ret ?_
    refine r_then ?_
    refine x_done (.inl rfl) (.cons (r_tmp rfl) .nil) ?_
    have h0 : its = [] := by
      rcases its with _ | ⟨x, l⟩
      · rfl
      · obtain ⟨b, o, h, _⟩ := hs 0 x rfl
        rw [c1] at h; cases h
    subst h0
    exact ⟨_, ⟨none, 0, rfl, rfl⟩, ent_osl_nil⟩
  · intro c1
    have hsrc := hs.src itemV_len (fun _ => trivial)
    refine x_skip ?_
    refine n_then ?_
    refine x_seq ?_
    refine x_region ?_
    refine s_do rfl (d_slice0 Try.underlying83 Try.sizeOf171 rfl) ?_
    rintro _ _ ⟨b1, rfl, rfl⟩
    refine s_val rfl (v_move rfl) ?_
    refine s_do rfl (d_appendS (sz := 6) (by_ := 48) (info := Try.t171) Try.underlying83 (by kernel_rfl) rfl rfl rfl rfl (by decide) rfl rfl (news := its.flatMap itemV) (by
  rcases hsrc with h | ⟨bs, os, h1, h2⟩
  · left; rw [h]; rfl
  · right; exact ⟨bs, os, h1, h2.weak⟩) (flat_len itemV_len its) (allOne_flat itemV_one its) (by simp only [maxLen]; omega) (by omega)) ?_
    rintro _ _ ⟨a1, c1, rfl, rfl⟩
    refine s_val rfl (v_assign rfl) ?_
    refine x_nil ?_
    refine n_then ?_
    refine x_ret ?_
    refine x_done (.inl rfl) (.cons (r_tmp rfl) .nil) ?_
    rw [Nat.zero_add, List.nil_append]
    exact ⟨_, ⟨a1, c1, rfl, rfl⟩, inferInstance⟩
/-- The first that is meant. -/
def FoundP (its : List It) (p : It → Bool) (r : Int) : Prop := (r = -1 ∧ ∀ i, i < its.length → p (its.getD i default) = false) ∨ ∃ i : Nat, r = (i : Int) ∧ i < its.length ∧ p (its.getD i default) = true ∧ ∀ j, j < i → p (its.getD j default) = false
theorem idxP_spec (W0 : World) (R : List HP) (its : List It) (a : Option Addr) (c : Nat) (f : FuncId) (cs : List Value) (C : HP) (p : It → Bool) (hp : PF W0 f cs C p) (hN : its.length < 1000) :
    Spec Try.prog W0 143 [.slice a its.length c, .func (.func f) #[] cs.toArray]
      (osl 171 6 (.slice a its.length c) (its.flatMap itemV) :: kH 0 C :: R)
      (fun v B => ∃ r, v = .int .i64 r ∧ B = osl 171 6 (.slice a its.length c) (its.flatMap itemV) :: kH 0 C :: R ∧ FoundP its p r) := by
  refine spec_osl (fun h1 h2 => ?_) fun g n cap sp h1 h2 h3 h4 h5 => ?_
  · have h0 : its.length = 0 := by have := flat_len itemV_len its; rw [h2] at this; simp at this; omega
    obtain rfl : its = [] := List.eq_nil_of_length_eq_zero h0
    cases h1
    refine spec_body Try.func143 Try.ntmps143 rfl rfl ?_
    refine x_seq ?_
    refine x_region ?_
    refine s_val rfl (v_assign rfl) ?_
    refine x_nil ?_
    refine n_then ?_
    refine x_seq ?_
    refine x_seq ?_
    refine x_region ?_
    refine s_val rfl (v_move rfl) ?_
    refine s_val rfl (v_len_slice Try.underlying83 rfl) ?_
    refine s_val rfl (v_move rfl) ?_
    refine x_nil ?_
    refine n_then ?_
    refine x_block ?_
    refine x_loop (fun X : Nat => True) (fun X => [(7, .int .i64 0), (8, .int .i64 X)]) (fun X => kH 0 C :: R) (fun X => X) 0 ?_ ?_ ?_ ?_
    · trivial
    · repeat (first | exact sub_nil | refine sub_cons rfl ?_)
    · exact inferInstance
    · intro j hj
      refine x_seq ?_
      refine x_region ?_
      refine s_val rfl (v_lss rfl rfl) ?_
      refine x_nil ?_
      refine n_then ?_
      refine x_seq ?_
      refine x_if rfl ?_ ?_
      · intro c2
        omega
      · intro c2
        refine x_exit ?_
        refine e_then ?_
        refine e_then ?_
        refine e_block ?_
        refine n_then ?_
        refine x_seq ?_
        refine x_region ?_
        refine s_val rfl (v_assign rfl) ?_
        refine x_nil ?_
        refine n_then ?_
        refine x_ret ?_
        refine x_done (.inl rfl) (.cons (r_tmp rfl) .nil) ?_
        exact ⟨_, ⟨-1, rfl, rfl, .inl ⟨rfl, by simp⟩⟩, ent_osl_nil⟩
  · cases h1
    refine spec_body Try.func143 Try.ntmps143 rfl rfl ?_
    refine x_seq ?_
    refine x_region ?_
    refine s_val rfl (v_assign rfl) ?_
    refine x_nil ?_
    refine n_then ?_
    refine x_seq ?_
    refine x_seq ?_
    refine x_region ?_
    refine s_val rfl (v_move rfl) ?_
    refine s_val rfl (v_len_slice Try.underlying83 rfl) ?_
    refine s_val rfl (v_move rfl) ?_
    refine x_nil ?_
    refine n_then ?_
    refine x_block ?_
    refine x_loop (fun X : Nat => X ≤ its.length ∧ ∀ i, i < X → p (its.getD i default) = false) (fun X => [(0, .slice (some ⟨g, 0, none⟩) its.length c), (1, .func (.func f) #[] cs.toArray), (7, .int .i64 (its.length : Nat)), (8, .int .i64 X)]) (fun X => pt g (cob (its.flatMap itemV ++ sp) 171) :: kH 0 C :: R) (fun X => its.length - X) 0 ?_ ?_ ?_ ?_
    · exact ⟨Nat.zero_le _, fun i h => absurd h (Nat.not_lt_zero _)⟩
    · repeat (first | exact sub_nil | refine sub_cons rfl ?_)
    · exact inferInstance
    · intro j ⟨hj, hno⟩
      refine x_seq ?_
      refine x_region ?_
      refine s_val rfl (v_lss rfl rfl) ?_
      refine x_nil ?_
      refine n_then ?_
      refine x_seq ?_
      refine x_if rfl ?_ ?_
      · intro c2
        refine x_skip ?_
        refine n_then ?_
        refine x_seq ?_
        refine x_block ?_
        refine x_seq ?_
        refine x_region ?_
        refine s_val rfl (v_move rfl) ?_
        refine s_val rfl (v_assign rfl) ?_
        refine x_nil ?_
        refine n_then ?_
        refine x_seq ?_
        refine x_region ?_
        refine s_val rfl (v_move rfl) ?_
        refine s_val rfl (v_move rfl) ?_
        refine s_val rfl (v_move rfl) ?_
        refine s_val rfl (v_idx Try.underlying83 Try.sizeOf171 rfl rfl rfl (by omega) (by first | exact Nat.zero_add _ | rfl)) ?_
        refine s_val rfl (v_loadAgg Try.isAgg171 Try.sizeOf171 rfl (cells_part (item_row its sp j (by omega)) rfl) rfl) ?_
        refine s_do rfl (d_callv1 (us := []) (cs := cs) rfl hp.call rfl (hp.spec (its.getD j default) _)) ?_
        rintro _ B_ ⟨rfl, hB_⟩
        obtain rfl := hB_.symm
        refine x_nil ?_
        refine n_then ?_
        refine x_if rfl ?_ ?_
        · intro c4
          refine x_seq ?_
          refine x_region ?_
          refine s_val rfl (v_move rfl) ?_
          refine s_val rfl (v_assign rfl) ?_
          refine x_nil ?_
          refine n_then ?_
          refine x_ret ?_
          refine r_block ?_
          refine r_then ?_
          refine r_then ?_
          refine r_block ?_
          refine r_then ?_
          refine x_done (.inl rfl) (.cons (r_tmp rfl) .nil) ?_
          exact ⟨_, ⟨_, rfl, rfl, .inr ⟨j, rfl, by omega, c4, hno⟩⟩, ent_osl h2 h3 h4 h5⟩
        · intro c4
          refine x_skip ?_
          refine n_block ?_
          refine n_then ?_
          refine x_region ?_
          refine s_val rfl (v_add rfl rfl (by first | exact w64 (by omega) | rfl)) ?_
          refine s_val rfl (v_move rfl) ?_
          refine x_nil ?_
          refine n_then ?_
          refine inv_intro (j + 1) ?_ ?_ ?_ ?_
          · refine ⟨by omega, fun i hi => ?_⟩
            by_cases e : i = j
            · subst e; simpa using c4
            · exact hno i (by omega)
          · omega
          · repeat (first | exact sub_nil | refine sub_cons rfl ?_)
          · exact inferInstance
      · intro c2
        refine x_exit ?_
        refine e_then ?_
        refine e_then ?_
        refine e_block ?_
        refine n_then ?_
        refine x_seq ?_
        refine x_region ?_
        refine s_val rfl (v_assign rfl) ?_
        refine x_nil ?_
        refine n_then ?_
        refine x_ret ?_
        refine x_done (.inl rfl) (.cons (r_tmp rfl) .nil) ?_
        exact ⟨_, ⟨-1, rfl, rfl, .inl ⟨rfl, fun i hi => hno i (by omega)⟩⟩, ent_osl h2 h3 h4 h5⟩
def keepL (p : It → Bool) (l : List It) : List It := l.filter (fun x => !p x)
theorem keep_none {p : It → Bool} {l : List It} (h : ∀ i, i < l.length → p (l.getD i default) = false) : keepL p l = l := List.filter_eq_self.2 fun x hx => by
  obtain ⟨i, hi, rfl⟩ := List.mem_iff_getElem.1 hx
  have := h i hi
  simpa [List.getD, hi] using this
theorem keep_take {p : It → Bool} {l : List It} {j : Nat} (h : j < l.length) : keepL p (l.take (j + 1)) = keepL p (l.take j) ++ (if p (l.getD j default) then [] else [l.getD j default]) := by
  rw [List.take_succ_eq_append_getElem h, keepL, List.filter_append, show l.getD j default = l[j] by simp [List.getD, h]]
  cases hp : p l[j] <;> simp [keepL, hp]
/-- All that are not meant stand at the front. -/
structure DelI (p : It → Bool) (its l : List It) (i j : Nat) : Prop where
  len : l.length = its.length
  ij : i < j
  jl : j ≤ its.length
  front : l.take i = keepL p (its.take j)
  back : ∀ k, j ≤ k → l.getD k default = its.getD k default
theorem keep_len {p : It → Bool} {l : List It} {i : Nat} (h : i < l.length) (hp : p (l.getD i default) = true) (hno : ∀ j, j < i → p (l.getD j default) = false) : keepL p (l.take (i + 1)) = l.take i := by
  rw [keep_take h, hp, if_pos rfl, List.append_nil]
  refine keep_none fun j hj => ?_
  rw [List.length_take] at hj
  have := hno j (by omega)
  simpa [List.getD, List.getElem?_take, show j < i by omega] using this
theorem DelI.skip {p : It → Bool} {its l : List It} {i j : Nat} (h : DelI p its l i j) (hj : j < its.length) (hp : p (l.getD j default) = true) : DelI p its l i (j + 1) := by
  refine ⟨h.len, by have := h.ij; omega, by omega, ?_, fun k hk => h.back k (by omega)⟩
  rw [h.back j (Nat.le_refl _)] at hp
  rw [keep_take hj, hp, if_pos rfl, List.append_nil]; exact h.front
theorem DelI.move {p : It → Bool} {its l : List It} {i j : Nat} (h : DelI p its l i j) (hj : j < its.length) (hp : p (l.getD j default) = false) : DelI p its (l.set i (l.getD j default)) (i + 1) (j + 1) := by
  have hij := h.ij
  have hl := h.len
  have hb := h.back j (Nat.le_refl _)
  rw [hb] at hp ⊢
  refine ⟨by rw [List.length_set]; exact hl, by omega, by omega, ?_, fun k hk => ?_⟩
  · rw [keep_take hj, hp, if_neg (by decide), ← h.front, List.take_succ_eq_append_getElem (by rw [List.length_set]; omega), List.getElem_set_self, List.take_set_of_le (Nat.le_refl _)]
  · rw [← h.back k (by omega)]
    simp only [List.getD_eq_getElem?_getD]
    rw [List.getElem?_set_ne (by omega)]
theorem deleteF_spec (W0 : World) (R : List HP) (its : List It) (a : Option Addr) (c : Nat) (f : FuncId) (cs : List Value) (C : HP) (p : It → Bool) (hp : PF W0 f cs C p) (hN : its.length < 1000) :
    Spec Try.prog W0 151 [.slice a its.length c, .func (.func f) #[] cs.toArray]
      (osl 171 6 (.slice a its.length c) (its.flatMap itemV) :: kH 0 C :: R)
      (fun v B => ∃ a' c', v = .slice a' (keepL p its).length c' ∧ B = osl 171 6 (.slice a' (keepL p its).length c') ((keepL p its).flatMap itemV) :: kH 0 C :: R) := by
  refine spec_body Try.func151 Try.ntmps151 rfl rfl ?_
  refine x_seq ?_
  refine x_region ?_
  refine s_val rfl (v_assign rfl) ?_
  refine x_nil ?_
  refine n_then ?_
  refine x_seq ?_
  refine x_region ?_
  refine s_val rfl (v_move rfl) ?_
  refine s_val rfl (v_move rfl) ?_
  refine s_do rfl (d_call2 Try.call143 rfl (idxP_spec W0 _ its a c f cs C p hp hN)) ?_
  rintro _ B_ ⟨r, rfl, hB_, hf⟩
  obtain rfl := hB_.symm
  refine s_val rfl (v_assign rfl) ?_
  refine x_nil ?_
  refine n_then ?_
  refine x_seq ?_
  refine x_seq ?_
  refine x_region ?_
  refine s_val rfl (v_move rfl) ?_
  refine s_val rfl (v_eql rfl rfl) ?_
  refine x_nil ?_
  refine n_then ?_
  refine x_if rfl ?_ ?_
  · intro c2
    refine x_seq ?_
    refine x_region ?_
    refine s_val rfl (v_move rfl) ?_
    refine s_val rfl (v_assign rfl) ?_
    refine x_nil ?_
    refine n_then ?_
    refine x_ret ?_
    refine r_then ?_
    refine x_done (.inl rfl) (.cons (r_tmp rfl) .nil) ?_
    have hno : ∀ i, i < its.length → p (its.getD i default) = false := by
      rcases hf with ⟨_, h⟩ | ⟨i, h, _⟩
      · exact h
      · omega
    rw [keep_none hno]
    exact ⟨_, ⟨a, c, rfl, rfl⟩, inferInstance⟩
  · intro c2
    obtain ⟨i, rfl, hi, hpi, hno⟩ : ∃ i : Nat, r = (i : Int) ∧ i < its.length ∧ p (its.getD i default) = true ∧ ∀ j, j < i → p (its.getD j default) = false := by
      rcases hf with ⟨h, _⟩ | h
      · omega
      · exact h
    refine run_tk (r := osl 171 6) (b := .slice a its.length c) ?_
    refine run_osl (fun h1 _ => by have := (Value.slice.inj h1).2.1; omega) fun g n cap sp h1 h2 h3 h4 h5 => ?_
    cases h1
    refine x_skip ?_
    refine n_then ?_
    refine x_seq ?_
    refine x_seq ?_
    refine x_region ?_
    refine s_val rfl (v_move rfl) ?_
    refine s_val rfl (v_add rfl rfl (by rw [w64 (by omega)]; omega : IntKind.wrap .i64 ((i : Int) + 1) = ((i + 1 : Nat) : Int))) ?_
    refine s_val rfl (v_assign rfl) ?_
    refine x_nil ?_
    refine n_then ?_
    refine x_block ?_
    refine x_loop (fun X : List It × Nat × Nat => DelI p its X.1 X.2.1 X.2.2) (fun X => [(0, .slice (some ⟨g, 0, none⟩) its.length c), (1, .func (.func f) #[] cs.toArray), (5, .int .i64 X.2.1), (6, .int .i64 X.2.2)]) (fun X => pt g (cob (X.1.flatMap itemV ++ sp) 171) :: kH 0 C :: R) (fun X => its.length - X.2.2) (its, i, i + 1) ?_ ?_ ?_ ?_
    · exact ⟨rfl, Nat.lt_succ_self _, by show i + 1 ≤ its.length; omega, (keep_len hi hpi hno).symm, fun _ _ => rfl⟩
    · repeat (first | exact sub_nil | refine sub_cons rfl ?_)
    · exact inferInstance
    · intro ⟨l, m, j⟩ hD
      dsimp only at hD ⊢
      have hl := hD.len
      have hmj := hD.ij
      have hjl := hD.jl
      refine x_seq ?_
      refine x_seq ?_
      refine x_region ?_
      refine s_val rfl (v_move rfl) ?_
      refine s_val rfl (v_move rfl) ?_
      refine s_val rfl (v_len_slice Try.underlying83 rfl) ?_
      refine s_val rfl (v_lss rfl rfl) ?_
      refine x_nil ?_
      refine n_then ?_
      refine x_if rfl ?_ ?_
      · intro c5
        refine x_skip ?_
        refine n_then ?_
        refine x_cut (fun Z : List It × Nat => DelI p its Z.1 Z.2 (j + 1)) (fun Z => [(0, .slice (some ⟨g, 0, none⟩) its.length c), (1, .func (.func f) #[] cs.toArray), (5, .int .i64 Z.2), (6, .int .i64 j)]) (fun Z => pt g (cob (Z.1.flatMap itemV ++ sp) 171) :: kH 0 C :: R) ?_ ?_
        · skip
          refine x_block ?_
          refine x_seq ?_
          refine x_region ?_
          refine s_val rfl (v_move rfl) ?_
          refine s_val rfl (v_move rfl) ?_
          refine s_val rfl (v_idx Try.underlying83 Try.sizeOf171 rfl rfl rfl (by omega) (by first | exact Nat.zero_add _ | rfl)) ?_
          refine s_val rfl (v_loadAgg Try.isAgg171 Try.sizeOf171 rfl (cells_part (item_row l sp j (by omega)) rfl) rfl) ?_
          refine s_do rfl (d_allocA Try.zeroValue171) ?_
          rintro _ _ ⟨bx, rfl, rfl⟩
          refine s_do0 (d_storeAll Try.sizeOf171 rfl rfl rfl rfl rfl) ?_
          rintro _ _ rfl
          refine x_nil ?_
          refine n_then ?_
          refine x_seq ?_
          refine x_region ?_
          refine s_val rfl (v_move rfl) ?_
          refine s_val rfl (v_loadAll Try.isAgg171 Try.sizeOf171 rfl rfl) ?_
          refine s_do rfl (d_callv1 (us := []) (cs := cs) rfl hp.call rfl (hp.spec (l.getD j default) _)) ?_
          rintro _ B_ ⟨rfl, hB_⟩
          obtain rfl := hB_.symm
          refine s_val rfl (v_not rfl) ?_
          refine x_nil ?_
          refine n_then ?_
          refine x_if rfl ?_ ?_
          · intro c8
            have hpj : p (l.getD j default) = false := by simpa using c8
            refine x_seq ?_
            refine x_region ?_
            refine s_val rfl (v_move rfl) ?_
            refine s_val rfl (v_move rfl) ?_
            refine s_val rfl (v_loadAll Try.isAgg171 Try.sizeOf171 rfl rfl) ?_
            refine s_val rfl (v_idx Try.underlying83 Try.sizeOf171 rfl rfl rfl (by omega) (by first | exact Nat.zero_add _ | rfl)) ?_
            refine s_do0 (d_storeAgg Try.sizeOf171 rfl rfl rfl rfl (item_bd l sp m (by omega)) (item_set l sp m (l.getD j default) (by omega))) ?_
            rintro _ _ rfl
            refine x_nil ?_
            refine n_then ?_
            refine x_region ?_
            refine s_val rfl (v_move rfl) ?_
            refine s_val rfl (v_add rfl rfl (by rw [w64 (by omega)]; omega : IntKind.wrap .i64 ((m : Int) + 1) = ((m + 1 : Nat) : Int))) ?_
            refine s_val rfl (v_assign rfl) ?_
            refine x_nil ?_
            refine n_block ?_
            refine n_then ?_
            refine mid_intro (l.set m (l.getD j default), m + 1) ?_ ?_ ?_
            · exact hD.move (by omega) hpj
            · repeat (first | exact sub_nil | refine sub_cons rfl ?_)
            · exact inferInstance
          · intro c8
            have hpj : p (l.getD j default) = true := by simpa using c8
            refine x_skip ?_
            refine n_block ?_
            refine n_then ?_
            refine mid_intro (l, m) ?_ ?_ ?_
            · exact hD.skip (by omega) hpj
            · repeat (first | exact sub_nil | refine sub_cons rfl ?_)
            · exact inferInstance
        · intro ⟨l2, m2⟩ hD2
          refine x_region ?_
          refine s_val rfl (v_move rfl) ?_
          refine s_val rfl (v_add rfl rfl (by rw [w64 (by omega)]; omega : IntKind.wrap .i64 ((j : Int) + 1) = ((j + 1 : Nat) : Int))) ?_
          refine s_val rfl (v_assign rfl) ?_
          refine x_nil ?_
          refine n_then ?_
          refine inv_intro (l2, m2, j + 1) ?_ ?_ ?_ ?_
          · exact hD2
          · show its.length - (j + 1) < its.length - j; omega
          · repeat (first | exact sub_nil | refine sub_cons rfl ?_)
          · exact inferInstance
      · intro c5
        refine x_exit ?_
        refine e_then ?_
        refine e_then ?_
        refine e_block ?_
        refine n_then ?_
        refine x_seq ?_
        obtain rfl : j = its.length := by omega
        have hfr := hD.front
        rw [List.take_of_length_le (Nat.le_refl _)] at hfr
        have hk : (keepL p its).length = m := by rw [← hfr, List.length_take]; omega
        refine x_region ?_
        refine s_val rfl (v_move rfl) ?_
        refine s_val rfl (v_move rfl) ?_
        refine s_val rfl (v_sliceL Try.underlying83 Try.sizeOf171 rfl rfl rfl (by omega) (by omega) (Nat.zero_add _)) ?_
        refine s_do0 (d_clear Try.underlying83 Try.zeroValue171 (by simp [Value.cells, Value.oneCell']) rfl (by omega) (by rw [List.length_append, flat_len itemV_len]; show m * 6 + (its.length - m) * 6 ≤ _; omega)) ?_
        rintro _ B_ ⟨vs, hvs, rfl, hB_⟩
        obtain rfl := hB_.symm
        replace hvs : vs.length = (its.length - m) * 6 := hvs
        have hset : setR (l.flatMap itemV ++ sp) (m * 6) vs = (keepL p its).flatMap itemV ++ (vs ++ sp) := by
          rw [setR_eq _ _ _ (by rw [List.length_append, flat_len itemV_len]; omega), flat_take itemV_len l m sp (by omega), hfr, show m * 6 + vs.length = l.length * 6 by omega, flat_drop itemV_len l l.length sp (Nat.le_refl _)]
          simp
        rw [hset]
        refine x_nil ?_
        refine n_then ?_
        refine x_seq ?_
        refine x_region ?_
        refine s_val rfl (v_move rfl) ?_
        refine s_val rfl (v_move rfl) ?_
        refine s_val rfl (v_sliceH Try.underlying83 Try.sizeOf171 rfl rfl rfl (by omega)) ?_
        refine s_val rfl (v_assign rfl) ?_
        refine x_nil ?_
        refine n_then ?_
        refine x_ret ?_
        refine x_done (.inl rfl) (.cons (r_tmp rfl) .nil) ?_
        rw [hk]
        exact ⟨_, ⟨_, _, rfl, rfl⟩, ent_osl (by omega) h3 (by rw [flat_len itemV_len, hk]) (by rw [← h5]; simp only [List.length_append, flat_len itemV_len, hk, hvs]; omega)⟩
end Go.Proofs.Ytechkfopkpkigaa
