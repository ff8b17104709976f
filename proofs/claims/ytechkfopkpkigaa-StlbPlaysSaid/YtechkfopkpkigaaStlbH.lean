/-
  Layer 18 (stlb): List.
-/
import Derived.Test.YtechkfopkpkigaaStlbG
namespace Go.Proofs.Ytechkfopkpkigaa
open Go.RowKit
set_option linter.unusedSimpArgs false
set_option linter.unusedVariables false
set_option maxRecDepth 20000

theorem len64_spec (W0 : World) (R : List HP) (x : Nat) (hx : x < 60000) : Spec Try.prog W0 206 [.int .u64 x] R (fun v B => ∃ r : Nat, v = .int .i64 r ∧ B = R) := by
  refine spec_body Try.func206 Try.ntmps206 rfl rfl ?_
  refine x_seq ?_
  refine x_region ?_
  refine s_val rfl (v_assign rfl) ?_
  refine x_nil ?_
  refine n_then ?_
  refine x_seq ?_
  refine x_seq ?_
  refine x_region ?_
  refine s_val rfl (v_move rfl) ?_
  refine s_val rfl (v_geq rfl rfl) ?_
  refine x_nil ?_
  refine n_then ?_
  refine x_if rfl ?_ ?_
  · intro c1
    omega
  · intro c1
    refine x_skip ?_
    refine n_then ?_
    refine x_seq ?_
    refine x_seq ?_
    refine x_region ?_
    refine s_val rfl (v_move rfl) ?_
    refine s_val rfl (v_geq rfl rfl) ?_
    refine x_nil ?_
    refine n_then ?_
    refine x_if rfl ?_ ?_
    · intro c4
      omega
    · intro c4
      refine x_skip ?_
      refine n_then ?_
      refine x_cut (fun z : Nat × Nat => z.1 < 256 ∧ z.2 ≤ 8) (fun z => [(0, .int .u64 z.1), (2, .int .i64 z.2)]) (fun _ => R) ?_ ?_
      · skip
        refine x_seq ?_
        refine x_region ?_
        refine s_val rfl (v_move rfl) ?_
        refine s_val rfl (v_geq rfl rfl) ?_
        refine x_nil ?_
        refine n_then ?_
        refine x_if rfl ?_ ?_
        · intro c7
          refine x_seq ?_
          refine x_region ?_
          refine s_val rfl (v_move rfl) ?_
          refine s_val rfl (v_shr rfl rfl (by decide) (bShr_nat (s := 8) (by decide))) ?_
          refine s_val rfl (v_assign rfl) ?_
          refine x_nil ?_
          refine n_then ?_
          refine x_region ?_
          refine s_val rfl (v_move rfl) ?_
          refine s_val rfl (v_add rfl rfl (by first | exact w64 (by omega) | rfl)) ?_
          refine s_val rfl (v_assign rfl) ?_
          refine x_nil ?_
          refine n_then ?_
          refine mid_intro (x / 2 ^ 8, 8) ?_ ?_ ?_
          · exact ⟨by show x / 256 < 256; omega, Nat.le_refl _⟩
          · repeat (first | exact sub_nil | refine sub_cons rfl ?_)
          · exact inferInstance
        · intro c7
          refine x_skip ?_
          refine n_then ?_
          refine mid_intro (x, 0) ?_ ?_ ?_
          · exact ⟨by show x < 256; omega, Nat.zero_le _⟩
          · repeat (first | exact sub_nil | refine sub_cons rfl ?_)
          · exact inferInstance
      · intro ⟨y, n⟩ ⟨hy, hn⟩
        dsimp only at hy hn ⊢
        refine x_seq ?_
        refine x_region ?_
        refine s_val rfl (v_move rfl) ?_
        refine s_val rfl (v_move rfl) ?_
        refine s_val rfl (v_conv Try.underlying296 Try.underlying5 rfl (w8u (by omega))) ?_
        refine s_idxStr (j := y) rfl Try.underlying9 rfl rfl rfl (by show y < 256; exact hy) fun m hm => ?_
        refine s_val rfl (v_conv Try.underlying5 Try.underlying3 rfl (w64 (by omega))) ?_
        refine s_val rfl (v_add rfl rfl (by rw [w64 (by omega)]; omega : IntKind.wrap .i64 ((n : Int) + (m : Int)) = ((n + m : Nat) : Int))) ?_
        refine s_val rfl (v_assign rfl) ?_
        refine x_nil ?_
        refine n_then ?_
        refine x_ret ?_
        refine x_done (.inl rfl) (.cons (r_tmp rfl) .nil) ?_
        exact ⟨_, ⟨n + m, rfl, rfl⟩, inferInstance⟩
theorem len_spec (W0 : World) (R : List HP) (x : Nat) (hx : x < 60000) : Spec Try.prog W0 183 [.int .u64 x] R (fun v B => ∃ r : Nat, v = .int .i64 r ∧ B = R) := by
  refine spec_body Try.func183 Try.ntmps183 rfl rfl ?_
  refine x_seq ?_
  refine x_region ?_
  refine s_val rfl (v_assign rfl) ?_
  refine x_nil ?_
  refine n_then ?_
  refine x_seq ?_
  refine x_ifcf ?_
  refine x_skip ?_
  refine n_then ?_
  refine x_seq ?_
  refine x_region ?_
  refine s_val rfl (v_move rfl) ?_
  refine s_do rfl (d_call Try.call206 rfl (len64_spec W0 _ x hx)) ?_
  rintro _ B_ ⟨r, rfl, hB_⟩
  obtain rfl := hB_.symm
  refine s_val rfl (v_assign rfl) ?_
  refine x_nil ?_
  refine n_then ?_
  refine x_ret ?_
  refine x_done (.inl rfl) (.cons (r_tmp rfl) .nil) ?_
  exact ⟨_, ⟨r, rfl, rfl⟩, inferInstance⟩
theorem pdq_spec (W0 : World) (R : List HP) (g c : Nat) (its : List It) (sp : List Value) (k : Int) (hN : its.length ≤ 12) (h0 : 0 < its.length) :
    Spec Try.prog W0 182 [.slice (some ⟨g, 0, none⟩) its.length c, .int .i64 0, .int .i64 (its.length : Nat), .int .i64 k, .func (.func 95) #[] #[]]
      (pt g (cob (its.flatMap itemV ++ sp) 171) :: R)
      (fun v B => ∃ l : List It, v = .tuple #[] ∧ B = pt g (cob (l.flatMap itemV ++ sp) 171) :: R ∧ l.Perm its ∧ ∀ p q, p < q → q < its.length → us l p ≤ us l q) := by
  refine spec_body Try.func182 Try.ntmps182 rfl rfl ?_
  refine x_seq ?_
  refine x_region ?_
  refine s_val rfl (v_assign rfl) ?_
  refine x_nil ?_
  refine n_then ?_
  refine x_seq ?_
  refine x_region ?_
  refine s_val rfl (v_assign rfl) ?_
  refine x_nil ?_
  refine n_then ?_
  refine x_block ?_
  refine x_loop (fun _ : Unit => True) (fun _ => [(0, .slice (some ⟨g, 0, none⟩) its.length c), (1, .int .i64 0), (2, .int .i64 (its.length : Nat)), (3, .int .i64 k), (4, .func (.func 95) #[] #[])]) (fun _ => pt g (cob (its.flatMap itemV ++ sp) 171) :: R) (fun _ => 0) () ?_ ?_ ?_ ?_
  · trivial
  · repeat (first | exact sub_nil | refine sub_cons rfl ?_)
  · exact inferInstance
  · intro u hu
    refine x_block ?_
    refine x_seq ?_
    refine x_region ?_
    refine s_val rfl (v_move rfl) ?_
    refine s_val rfl (v_move rfl) ?_
    refine s_val rfl (v_sub rfl rfl (by rw [w64 (by omega)]; omega : IntKind.wrap .i64 ((its.length : Int) - 0) = ((its.length : Nat) : Int))) ?_
    refine s_val rfl (v_assign rfl) ?_
    refine x_nil ?_
    refine n_then ?_
    refine x_seq ?_
    refine x_seq ?_
    refine x_region ?_
    refine s_val rfl (v_move rfl) ?_
    refine s_val rfl (v_leq rfl rfl) ?_
    refine x_nil ?_
    refine n_then ?_
    refine x_if rfl ?_ ?_
    · intro c3
      refine x_seq ?_
      refine x_region ?_
      refine s_val rfl (v_move rfl) ?_
      refine s_val rfl (v_move rfl) ?_
      refine s_val rfl (v_move rfl) ?_
      refine s_val rfl (v_move rfl) ?_
      refine s_do rfl (d_call1 Try.call197 rfl (insSort_spec W0 _ g c its sp (by omega) h0)) ?_
      rintro _ B_ ⟨l, rfl, hB_, hp, hS⟩
      obtain rfl := hB_.symm
      refine x_nil ?_
      refine n_then ?_
      refine x_ret ?_
      refine r_then ?_
      refine r_block ?_
      refine r_then ?_
      refine r_block ?_
      refine x_done (.inl rfl) .nil ?_
      exact ⟨_, ⟨l, rfl, rfl, hp, hS⟩, inferInstance⟩
    · intro c3
      omega
theorem pdq0_spec (W0 : World) (R : List HP) (a : Option Addr) (c : Nat) (k : Int) :
    Spec Try.prog W0 182 [.slice a 0 c, .int .i64 0, .int .i64 0, .int .i64 k, .func (.func 95) #[] #[]] R (fun v B => v = .tuple #[] ∧ B = R) := by
  have hi : Spec Try.prog W0 197 [.slice a 0 c, .int .i64 0, .int .i64 0, .func (.func 95) #[] #[]] R (fun v B => v = .tuple #[] ∧ B = R) := by
    refine spec_body Try.func197 Try.ntmps197 rfl rfl ?_
    refine x_seq ?_
    refine x_region ?_
    refine s_val rfl (v_move rfl) ?_
    refine s_val rfl (v_add rfl rfl (w64 (by omega))) ?_
    refine s_val rfl (v_assign rfl) ?_
    refine x_nil ?_
    refine n_then ?_
    refine x_block ?_
    refine x_loop (fun _ : Unit => True) (fun _ => [(2, .int .i64 0), (8, .int .i64 1)]) (fun _ => R) (fun _ => 0) () ?_ ?_ ?_ ?_
    · trivial
    · repeat (first | exact sub_nil | refine sub_cons rfl ?_)
    · exact inferInstance
    · intro u hu
      refine x_seq ?_
      refine x_seq ?_
      refine x_region ?_
      refine s_val rfl (v_move rfl) ?_
      refine s_val rfl (v_move rfl) ?_
      refine s_val rfl (v_lss rfl rfl) ?_
      refine x_nil ?_
      refine n_then ?_
      refine x_if rfl ?_ ?_
      · intro c1
        omega
      · intro c1
        refine x_exit ?_
        refine e_then ?_
        refine e_then ?_
        refine e_block ?_
        refine x_done (.inr rfl) .nil ?_
        exact ⟨_, ⟨rfl, rfl⟩, inferInstance⟩
  refine spec_body Try.func182 Try.ntmps182 rfl rfl ?_
  refine x_seq ?_
  refine x_region ?_
  refine s_val rfl (v_assign rfl) ?_
  refine x_nil ?_
  refine n_then ?_
  refine x_seq ?_
  refine x_region ?_
  refine s_val rfl (v_assign rfl) ?_
  refine x_nil ?_
  refine n_then ?_
  refine x_block ?_
  refine x_loop (fun _ : Unit => True) (fun _ => [(0, .slice a 0 c), (1, .int .i64 0), (2, .int .i64 0), (3, .int .i64 k), (4, .func (.func 95) #[] #[])]) (fun _ => R) (fun _ => 0) () ?_ ?_ ?_ ?_
  · trivial
  · repeat (first | exact sub_nil | refine sub_cons rfl ?_)
  · exact inferInstance
  · intro u hu
    refine x_block ?_
    refine x_seq ?_
    refine x_region ?_
    refine s_val rfl (v_move rfl) ?_
    refine s_val rfl (v_move rfl) ?_
    refine s_val rfl (v_sub rfl rfl (w64 (by omega))) ?_
    refine s_val rfl (v_assign rfl) ?_
    refine x_nil ?_
    refine n_then ?_
    refine x_seq ?_
    refine x_seq ?_
    refine x_region ?_
    refine s_val rfl (v_move rfl) ?_
    refine s_val rfl (v_leq rfl rfl) ?_
    refine x_nil ?_
    refine n_then ?_
    refine x_if rfl ?_ ?_
    · intro c3
      refine x_seq ?_
      refine x_region ?_
      refine s_val rfl (v_move rfl) ?_
      refine s_val rfl (v_move rfl) ?_
      refine s_val rfl (v_move rfl) ?_
      refine s_val rfl (v_move rfl) ?_
      refine s_do rfl (d_call Try.call197 rfl (hi)) ?_
      rintro _ B_ ⟨rfl, hB_⟩
      obtain rfl := hB_.symm
      refine x_nil ?_
      refine n_then ?_
      refine x_ret ?_
      refine r_then ?_
      refine r_block ?_
      refine r_then ?_
      refine r_block ?_
      refine x_done (.inl rfl) .nil ?_
      exact ⟨_, ⟨rfl, rfl⟩, inferInstance⟩
    · intro c3
      omega
theorem sortF_spec (W0 : World) (R : List HP) (a : Option Addr) (c : Nat) (its : List It) (hN : its.length ≤ 12) :
    Spec Try.prog W0 148 [.slice a its.length c, .func (.func 95) #[] #[]]
      (osl 171 6 (.slice a its.length c) (its.flatMap itemV) :: R)
      (fun v B => ∃ l : List It, v = .tuple #[] ∧ B = osl 171 6 (.slice a its.length c) (l.flatMap itemV) :: R ∧ l.Perm its ∧ ∀ p q, p < q → q < its.length → us l p ≤ us l q) := by
  refine spec_osl (fun h1 h2 => ?_) fun g n cap sp h1 h2 h3 h4 h5 => ?_
  · have h0 : its.length = 0 := by have := flat_len itemV_len its; rw [h2] at this; simp at this; omega
    obtain rfl : its = [] := List.eq_nil_of_length_eq_zero h0
    cases h1
    refine spec_body Try.func148 Try.ntmps148 rfl rfl ?_
    refine x_seq ?_
    refine x_region ?_
    refine s_val rfl (v_move rfl) ?_
    refine s_val rfl (v_len_slice Try.underlying83 rfl) ?_
    refine s_val rfl (v_assign rfl) ?_
    refine x_nil ?_
    refine n_then ?_
    refine x_region ?_
    refine s_val rfl (v_move rfl) ?_
    refine s_val rfl (v_move rfl) ?_
    refine s_val rfl (v_move rfl) ?_
    refine s_val rfl (v_conv Try.underlying3 Try.underlying277 rfl (show IntKind.wrap .u64 ((0 : Nat) : Int) = ((0 : Nat) : Int) from rfl)) ?_
    refine s_do rfl (d_call Try.call183 rfl (len_spec W0 _ 0 (by decide))) ?_
    rintro _ B_ ⟨r, rfl, hB_⟩
    obtain rfl := hB_.symm
    refine s_val rfl (v_move rfl) ?_
    refine s_do rfl (d_call Try.call182 rfl (pdq0_spec W0 _ none 0 r)) ?_
    rintro _ B_ ⟨rfl, hB_⟩
    obtain rfl := hB_.symm
    refine x_nil ?_
    refine x_done (.inr rfl) .nil ?_
    exact ⟨_, ⟨[], rfl, rfl, List.Perm.refl _, fun p q _ hq => by simp at hq⟩, ent_osl_nil⟩
  · cases h1
    by_cases hz : its.length = 0
    · obtain rfl : its = [] := List.eq_nil_of_length_eq_zero hz
      refine spec_body Try.func148 Try.ntmps148 rfl rfl ?_
      refine x_seq ?_
      refine x_region ?_
      refine s_val rfl (v_move rfl) ?_
      refine s_val rfl (v_len_slice Try.underlying83 rfl) ?_
      refine s_val rfl (v_assign rfl) ?_
      refine x_nil ?_
      refine n_then ?_
      refine x_region ?_
      refine s_val rfl (v_move rfl) ?_
      refine s_val rfl (v_move rfl) ?_
      refine s_val rfl (v_move rfl) ?_
      refine s_val rfl (v_conv Try.underlying3 Try.underlying277 rfl (show IntKind.wrap .u64 ((0 : Nat) : Int) = ((0 : Nat) : Int) from rfl)) ?_
      refine s_do rfl (d_call Try.call183 rfl (len_spec W0 _ 0 (by decide))) ?_
      rintro _ B_ ⟨r, rfl, hB_⟩
      obtain rfl := hB_.symm
      refine s_val rfl (v_move rfl) ?_
      refine s_do rfl (d_call Try.call182 rfl (pdq0_spec W0 _ _ c r)) ?_
      rintro _ B_ ⟨rfl, hB_⟩
      obtain rfl := hB_.symm
      refine x_nil ?_
      refine x_done (.inr rfl) .nil ?_
      exact ⟨_, ⟨[], rfl, rfl, List.Perm.refl _, fun p q _ hq => by simp at hq⟩, ent_osl h2 h3 h4 h5⟩
    · skip
      refine spec_body Try.func148 Try.ntmps148 rfl rfl ?_
      refine x_seq ?_
      refine x_region ?_
      refine s_val rfl (v_move rfl) ?_
      refine s_val rfl (v_len_slice Try.underlying83 rfl) ?_
      refine s_val rfl (v_assign rfl) ?_
      refine x_nil ?_
      refine n_then ?_
      refine x_region ?_
      refine s_val rfl (v_move rfl) ?_
      refine s_val rfl (v_move rfl) ?_
      refine s_val rfl (v_move rfl) ?_
      refine s_val rfl (v_conv Try.underlying3 Try.underlying277 rfl (show IntKind.wrap .u64 ((its.length : Nat) : Int) = ((its.length : Nat) : Int) from by simp only [IntKind.wrap, IntKind.bits, IntKind.signed]; simp; omega)) ?_
      refine s_do rfl (d_call Try.call183 rfl (len_spec W0 _ its.length (by omega))) ?_
      rintro _ B_ ⟨r, rfl, hB_⟩
      obtain rfl := hB_.symm
      refine s_val rfl (v_move rfl) ?_
      refine s_do rfl (d_call1 Try.call182 rfl (pdq_spec W0 _ g c its sp r hN (by omega))) ?_
      rintro _ B_ ⟨l, rfl, hB_, hp, hS⟩
      obtain rfl := hB_.symm
      have hll := hp.length_eq
      refine x_nil ?_
      refine x_done (.inr rfl) .nil ?_
      exact ⟨_, ⟨l, rfl, rfl, hp, hS⟩, ent_osl h2 h3 (by rw [flat_len itemV_len, hll]) (by rw [← h5]; simp only [List.length_append, flat_len itemV_len, hll])⟩
theorem sortedF_spec (W0 : World) (R : List HP) (bs c : Nat) (a : Option Addr) (its : List It) (hN : its.length ≤ 12) :
    Spec Try.prog W0 93 [.func (.func 149) #[] #[.pointer (some ⟨bs, 0, none⟩)], .func (.func 95) #[] #[]]
      (pt bs (cob [.slice a its.length c] 83) :: osl 171 6 (.slice a its.length c) (its.flatMap itemV) :: R)
      (fun v B => ∃ (l : List It) (a' : Option Addr) (c' : Nat), v = .slice a' l.length c' ∧ B = osl 171 6 (.slice a' l.length c') (l.flatMap itemV) :: osl 171 6 (.slice a its.length c) (its.flatMap itemV) :: R ∧ l.Perm its ∧ ∀ p q, p < q → q < its.length → us l p ≤ us l q) := by
  refine spec_body Try.func93 Try.ntmps93 rfl rfl ?_
  refine x_seq ?_
  refine x_region ?_
  refine s_val rfl (v_assign rfl) ?_
  refine x_nil ?_
  refine n_then ?_
  refine x_seq ?_
  refine x_region ?_
  refine s_val rfl (v_move rfl) ?_
  refine s_do rfl (d_call2 Try.call147 rfl (collect_spec W0 _ bs c a its (by omega))) ?_
  rintro _ B_ ⟨a2, c2, rfl, hB_⟩
  obtain rfl := hB_.symm
  refine s_val rfl (v_assign rfl) ?_
  refine x_nil ?_
  refine n_then ?_
  refine x_seq ?_
  refine x_region ?_
  refine s_val rfl (v_move rfl) ?_
  refine s_val rfl (v_move rfl) ?_
  refine s_do rfl (d_call1 Try.call148 rfl (sortF_spec W0 _ a2 c2 its hN)) ?_
  rintro _ B_ ⟨l, rfl, hB_, hp, hS⟩
  obtain rfl := hB_.symm
  have hll := hp.length_eq
  refine x_nil ?_
  refine n_then ?_
  refine x_seq ?_
  refine x_region ?_
  refine s_val rfl (v_move rfl) ?_
  refine s_val rfl (v_assign rfl) ?_
  refine x_nil ?_
  refine n_then ?_
  refine x_ret ?_
  refine x_done (.inl rfl) (.cons (r_tmp rfl) .nil) ?_
  rw [← hll] at hS ⊢
  exact ⟨_, ⟨l, a2, c2, rfl, rfl, hp, hS⟩, inferInstance⟩
/-- Who is sorted and has the same members is the same list. -/
theorem sorted_eq : ∀ {l L : List It}, l.Perm L → (∀ p q, p < q → q < l.length → us l p ≤ us l q) → L.Pairwise (fun x y => x.u < y.u) → l = L
  | [], L, hp, _, _ => hp.nil_eq
  | x :: l, [], hp, _, _ => by have := hp.length_eq; simp at this
  | x :: l, y :: L, hp, hs, hw => by
    have h1 : ∀ z ∈ l, x.u ≤ z.u := fun z hz => by
      obtain ⟨i, hi, rfl⟩ := List.mem_iff_getElem.1 hz
      have := hs 0 (i + 1) (by omega) (by simp; omega)
      simpa [us, hi] using this
    obtain ⟨hw1, hw2⟩ := List.pairwise_cons.1 hw
    have hx : x ∈ y :: L := hp.subset (List.mem_cons_self ..)
    have hy : y ∈ x :: l := hp.symm.subset (List.mem_cons_self ..)
    have e : x = y := by
      rcases List.mem_cons.1 hx with h | h
      · exact h
      · rcases List.mem_cons.1 hy with h' | h'
        · exact h'.symm
        · have := hw1 x h; have := h1 y h'; omega
    subst e
    rw [sorted_eq (hp.cons_inv) (fun p q hpq hq => by
      have := hs (p + 1) (q + 1) (by omega) (by simp; omega)
      simpa [us] using this) hw2]
def keptV (x : It) : List Value := [.int .i64 x.kr, .int .i64 x.kp, .int .i64 x.ep, .int .i64 x.ef, .int .i64 x.er]
theorem keptV_len (x : It) : (keptV x).length = 5 := rfl
theorem List_spec18 (W0 : World) (R : List HP) (b : Nat) (its : List It) (rm nw : Value) (now : Nat) (L : List It) (hR : Rep its now L) (hN : L.length ≤ 12) :
    Spec Try.prog W0 30 [.pointer (some ⟨b, 0, none⟩)] (rowH b (its, [rm, nw, .bool true]) :: R)
      (fun v B => ∃ a c, v = .slice a L.length c ∧ B = osl 80 5 (.slice a L.length c) (L.flatMap keptV) :: rowH b (its, [rm, nw, .bool true]) :: R) := by
  have hlen := hR.length
  refine spec_body Try.func30 Try.ntmps30 rfl rfl ?_
  refine x_seq ?_
  refine x_region ?_
  refine s_val rfl (v_assign rfl) ?_
  refine x_nil ?_
  refine n_then ?_
  refine x_seq ?_
  refine x_seq ?_
  refine x_region ?_
  refine s_val rfl (v_move rfl) ?_
  refine s_do rfl (d_call1 Try.call86 rfl (none_spec W0 _ b its rm nw)) ?_
  rintro _ B_ ⟨rfl, hB_⟩
  obtain rfl := hB_.symm
  refine x_nil ?_
  refine n_then ?_
  refine x_if rfl ?_ ?_
  · intro c1
    exact absurd c1 (by decide)
  · intro c1
    refine x_skip ?_
    refine n_then ?_
    refine x_seq ?_
    refine run_row (b := b) fun a0 c0 => ?_
    refine x_region ?_
    refine s_val rfl (v_move rfl) ?_
    refine s_val rfl (v_nilCheck rfl) ?_
    refine s_val rfl (v_fieldAddr rfl Try.underlying87 rfl Try.sizeOf85 rfl (by first | exact Nat.zero_add _ | rfl)) ?_
    refine s_val rfl (v_fieldAddr rfl Try.underlying85 rfl Try.sizeOf83 rfl (by first | exact Nat.zero_add _ | rfl)) ?_
    refine s_val rfl (v_load Try.isAgg83 rfl (cell_own rfl)) ?_
    refine s_do rfl (d_call Try.call94 rfl (values_spec W0 _ a0 its.length c0)) ?_
    rintro _ B_ ⟨bs, rfl, hB_⟩
    obtain rfl := hB_.symm
    refine s_do rfl (d_call2 Try.call93 rfl (sortedF_spec W0 _ bs c0 a0 its (by omega))) ?_
    rintro _ B_ ⟨l, a1, c1, rfl, hB_, hp, hS⟩
    obtain rfl := hB_.symm
    have hll := hp.length_eq
    obtain rfl : l = L := sorted_eq (hp.trans hR.perm) (fun p q h1 h2 => hS p q h1 (by omega)) hR.sort
    refine run_ent (B := rowH b (its, [rm, nw, .bool true]) :: osl 171 6 (.slice a1 l.length c1) (l.flatMap itemV) :: R) (ent_row rfl) ?_
    refine s_val rfl (v_assign rfl) ?_
    refine x_nil ?_
    refine n_then ?_
    refine x_seq ?_
    refine x_region ?_
    refine s_val rfl (v_assign rfl) ?_
    refine x_nil ?_
    refine n_then ?_
    refine x_seq ?_
    refine x_seq ?_
    refine x_region ?_
    refine s_val rfl (v_move rfl) ?_
    refine s_val rfl (v_len_slice Try.underlying83 rfl) ?_
    refine s_val rfl (v_move rfl) ?_
    refine x_nil ?_
    refine n_then ?_
    refine x_block ?_
    refine x_loop (fun X : Nat × Option Addr × Nat => X.1 ≤ l.length) (fun X => [(4, .slice X.2.1 X.1 X.2.2), (16, .slice a1 l.length c1), (17, .int .i64 (l.length : Nat)), (18, .int .i64 X.1)]) (fun X => osl 80 5 (.slice X.2.1 X.1 X.2.2) ((l.take X.1).flatMap keptV) :: rowH b (its, [rm, nw, .bool true]) :: osl 171 6 (.slice a1 l.length c1) (l.flatMap itemV) :: R) (fun X => l.length - X.1) (0, none, 0) ?_ ?_ ?_ ?_
    · exact Nat.zero_le _
    · repeat (first | exact sub_nil | refine sub_cons rfl ?_)
    · exact ent_osl_nil
    · intro ⟨i, a2, c2⟩ hi
      dsimp only at hi ⊢
      refine x_seq ?_
      refine x_region ?_
      refine s_val rfl (v_lss rfl rfl) ?_
      refine x_nil ?_
      refine n_then ?_
      refine x_seq ?_
      refine x_if rfl ?_ ?_
      · intro c6
        have hi1 : i < l.length := by omega
        refine run_sla (E := 171) (sz := 6) (a := a1) (n := l.length) (c := c1) itemV l itemV_len (by decide) rfl (fun hs => ?_)
        obtain ⟨g, o, rfl, hc⟩ := hs.at_ hi1
        have htk : l.take (i + 1) = l.take i ++ [l[i]] := List.take_succ_eq_append_getElem hi1
        refine x_skip ?_
        refine n_then ?_
        refine x_seq ?_
        refine x_block ?_
        refine x_seq ?_
        refine x_region ?_
        refine s_val rfl (v_idx Try.underlying83 Try.sizeOf171 rfl rfl rfl hi1 (by first | exact Nat.zero_add _ | rfl)) ?_
        refine s_val rfl (v_loadAgg Try.isAgg171 Try.sizeOf171 rfl hc rfl) ?_
        refine s_do rfl (d_allocA Try.zeroValue171) ?_
        rintro _ _ ⟨bx, rfl, rfl⟩
        refine s_do0 (d_storeAll Try.sizeOf171 rfl rfl rfl rfl rfl) ?_
        rintro _ _ rfl
        refine x_nil ?_
        refine n_then ?_
        refine run_pt (b := bx) (o' := cob [.int .i64 l[i].kr, .int .i64 l[i].kp, .int .i64 l[i].ep, .int .i64 l[i].ef, .int .i64 l[i].er, .int .i64 l[i].u] 171) rfl ?_
        refine x_region ?_
        refine s_val rfl (v_move rfl) ?_
        refine s_val rfl (v_fieldAddr rfl Try.underlying171 rfl Try.sizeOf80 rfl (by first | exact Nat.zero_add _ | rfl)) ?_
        refine s_val rfl (v_loadPart Try.isAgg80 Try.sizeOf80 rfl TakeL.eq rfl) ?_
        refine s_do rfl (d_sliceAgg Try.underlying76 Try.sizeOf80 Try.zeroValue80 rfl (elsK_cons rfl rfl elsK_nil) rfl (by decide) (by decide) (by decide)) ?_
        rintro _ _ ⟨b2, rfl, rfl⟩
        refine s_do rfl (d_append (sz := 5) (by_ := 40) (info := Try.t80) Try.underlying76 (by kernel_rfl) rfl rfl rfl rfl (by decide) rfl rfl cells_all rfl rfl (by simp only [maxLen]; omega) (by omega)) ?_
        rintro _ _ ⟨a3, c3, rfl, rfl⟩
        refine s_val rfl (v_assign rfl) ?_
        refine x_nil ?_
        refine n_block ?_
        refine n_then ?_
        refine x_region ?_
        refine s_val rfl (v_add rfl rfl (by first | exact w64 (by omega) | rfl)) ?_
        refine s_val rfl (v_move rfl) ?_
        refine x_nil ?_
        refine n_then ?_
        refine inv_intro (i + 1, a3, c3) ?_ ?_ ?_ ?_
        · omega
        · omega
        · repeat (first | exact sub_nil | refine sub_cons rfl ?_)
        · dsimp only
          rw [htk, List.flatMap_append]
          show Ent _ (osl 80 5 (.slice a3 (i + 1) c3) ((l.take i).flatMap keptV ++ [[.int .i64 l[i].kr, .int .i64 l[i].kp, .int .i64 l[i].ep, .int .i64 l[i].ef, .int .i64 l[i].er]].flatten) :: _)
          exact inferInstance
      · intro c6
        refine x_exit ?_
        refine e_then ?_
        refine e_then ?_
        refine e_block ?_
        refine n_then ?_
        refine x_seq ?_
        refine x_region ?_
        refine s_val rfl (v_move rfl) ?_
        refine s_val rfl (v_assign rfl) ?_
        refine x_nil ?_
        refine n_then ?_
        refine x_ret ?_
        refine x_done (.inl rfl) (.cons (r_tmp rfl) .nil) ?_
        obtain rfl : i = l.length := by omega
        rw [List.take_of_length_le (Nat.le_refl _)]
        exact ⟨_, ⟨a2, c2, rfl, rfl⟩, inferInstance⟩
end Go.Proofs.Ytechkfopkpkigaa
