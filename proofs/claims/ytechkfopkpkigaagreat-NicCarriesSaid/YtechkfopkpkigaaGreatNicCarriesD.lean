/-
  Part 4 of the proof of NicCarries: rules, and walks of functions. Conditions: none.
-/
import Derived.Test.YtechkfopkpkigaaGreatNicCarriesC
namespace Go.Proofs.YtechkfopkpkigaaGreat
open Go.RowKit
set_option linter.unusedSimpArgs false
set_option linter.unusedVariables false
set_option maxRecDepth 20000
theorem cloneStr_spec (W0 : World) (R : List HP) (l : List ByteArray) (a : Option Addr) (n c : Nat) (hl : l.length = n) (hN : n < 1000) (hs : SlA (OwnP W0 R) a 1 (fun s => [sV s]) l) :
    Spec Tryz.prog W0 142 [.slice a n c] R
      (fun v B => ∃ a' c', v = .slice a' n c' ∧ B = osl 9 1 (.slice a' n c') (strs l) :: R) := by
  subst hl
  refine spec_body Tryz.func142 Tryz.ntmps142 rfl rfl ?_
  refine x_seq ?_
  refine x_region ?_
  refine s_val rfl (v_assign rfl) ?_
  refine x_nil ?_
  refine n_then ?_
  refine x_seq ?_
  refine x_seq ?_
  refine x_region ?_
  refine s_val rfl (v_move rfl) ?_
  refine s_val rfl (v_eql_slice_nil Tryz.underlying97 rfl rfl) ?_
  refine x_nil ?_
  refine n_then ?_
  refine x_if rfl ?_ ?_
  · intro c1
    refine x_seq ?_
    refine x_region ?_
    refine s_val rfl (v_assign rfl) ?_
    refine x_nil ?_
    refine n_then ?_
    refine x_ret ?_
    refine r_then ?_
    refine x_done (.inl rfl) (.cons (r_tmp rfl) .nil) ?_
    have h0 : l = [] := by
      rcases l with _ | ⟨x, l⟩
      · rfl
      · obtain ⟨b, o, h, _⟩ := hs 0 x rfl
        rw [c1] at h; cases h
    subst h0
    exact ⟨_, ⟨none, 0, rfl, rfl⟩, ent_osl_nil⟩
  · intro c1
    have hsrc := hs.src (fun _ => rfl) (fun _ => trivial)
    rw [← strs_flat] at hsrc
    refine x_skip ?_
    refine n_then ?_
    refine x_seq ?_
    refine x_region ?_
    refine s_do rfl (d_slice0 Tryz.underlying97 Tryz.sizeOf9 rfl) ?_
    rintro _ _ ⟨b1, rfl, rfl⟩
    refine s_val rfl (v_move rfl) ?_
    refine s_do rfl (d_appendS (sz := 1) (by_ := 16) (info := Tryz.t9) Tryz.underlying97 (by kernel_rfl) rfl rfl rfl rfl (by decide) rfl rfl (news := strs l) (by
  rcases hsrc with h | ⟨bs, os, h1, h2⟩
  · left; rw [h]; rfl
  · right; exact ⟨bs, os, h1, h2.weak⟩) (by rw [strs_len, Nat.mul_one]) (strs_one l) (by simp only [maxLen]; omega) (by omega)) ?_
    rintro _ _ ⟨a1, c1, rfl, rfl⟩
    refine s_val rfl (v_assign rfl) ?_
    refine x_nil ?_
    refine n_then ?_
    refine x_ret ?_
    refine x_done (.inl rfl) (.cons (r_tmp rfl) .nil) ?_
    rw [Nat.zero_add, List.nil_append]
    exact ⟨_, ⟨a1, c1, rfl, rfl⟩, inferInstance⟩
theorem prAt_ok (W0 : World) (R : List HP) (p g n c i : Nat) (hi : i < n) :
    Spec Tryz.prog W0 141 [.pointer (some ⟨p, 0, none⟩), .int .i64 i] (pt p (cob [.slice (some ⟨g, 0, none⟩) n c, .bool true] 184) :: R)
      (fun v B => v = .pointer (some ⟨g, i * 3, none⟩) ∧ B = pt p (cob [.slice (some ⟨g, 0, none⟩) n c, .bool true] 184) :: R) := by
  refine spec_body Tryz.func141 Tryz.ntmps141 rfl rfl ?_
  refine x_seq ?_
  refine x_region ?_
  refine s_val rfl (v_assign rfl) ?_
  refine x_nil ?_
  refine n_then ?_
  refine x_seq ?_
  refine x_seq ?_
  refine x_region ?_
  refine s_val rfl (v_move rfl) ?_
  refine s_val rfl (v_eql_ptr_nil Tryz.underlying77 rfl rfl) ?_
  refine s_val rfl (v_move rfl) ?_
  refine s_or rfl rfl rfl ?_ ?_
  · intro g1_3
    cases g1_3
  · intro g1_3
    refine s_val rfl (v_move rfl) ?_
    refine s_yes rfl rfl ?_
    refine s_val rfl (v_lss rfl rfl) ?_
    refine s_val rfl (v_pick_f rfl rfl) ?_
    refine s_val rfl (v_move rfl) ?_
    refine s_or rfl rfl rfl ?_ ?_
    · intro g1_7
      omega
    · intro g1_7
      refine s_val rfl (v_move rfl) ?_
      refine s_yes rfl rfl ?_
      refine s_val rfl (v_move rfl) ?_
      refine s_yes rfl rfl ?_
      refine s_val rfl (v_nilCheck rfl) ?_
      refine s_yes rfl rfl ?_
      refine s_val rfl (v_fieldAddr rfl Tryz.underlying184 rfl Tryz.sizeOf182 rfl (by first | exact Nat.zero_add _ | rfl)) ?_
      refine s_yes rfl rfl ?_
      refine s_val rfl (v_load Tryz.isAgg182 rfl (cell_own rfl)) ?_
      refine s_yes rfl rfl ?_
      refine s_val rfl (v_len_slice Tryz.underlying182 rfl) ?_
      refine s_yes rfl rfl ?_
      refine s_val rfl (v_geq rfl rfl) ?_
      refine s_val rfl (v_pick_f rfl rfl) ?_
      refine x_nil ?_
      refine n_then ?_
      refine x_if rfl ?_ ?_
      · intro c1
        omega
      · intro c1
        refine x_skip ?_
        refine n_then ?_
        refine x_seq ?_
        refine x_region ?_
        refine s_val rfl (v_move rfl) ?_
        refine s_val rfl (v_nilCheck rfl) ?_
        refine s_val rfl (v_fieldAddr rfl Tryz.underlying184 rfl Tryz.sizeOf182 rfl (by first | exact Nat.zero_add _ | rfl)) ?_
        refine s_val rfl (v_load Tryz.isAgg182 rfl (cell_own rfl)) ?_
        refine s_val rfl (v_move rfl) ?_
        refine s_val rfl (v_idx Tryz.underlying182 Tryz.sizeOf186 rfl rfl rfl hi (by first | exact Nat.zero_add _ | rfl)) ?_
        refine s_val rfl (v_assign rfl) ?_
        refine x_nil ?_
        refine n_then ?_
        refine x_ret ?_
        refine x_done (.inl rfl) (.cons (r_tmp rfl) .nil) ?_
        exact ⟨_, ⟨rfl, rfl⟩, inferInstance⟩
theorem prAt_no (W0 : World) (R : List HP) (p n c : Nat) (a : Option Addr) (i : Int) (hi : ¬ (0 ≤ i ∧ i < n)) :
    Spec Tryz.prog W0 141 [.pointer (some ⟨p, 0, none⟩), .int .i64 i] (pt p (cob [.slice a n c, .bool true] 184) :: R)
      (fun v B => v = .pointer none ∧ B = pt p (cob [.slice a n c, .bool true] 184) :: R) := by
  refine spec_body Tryz.func141 Tryz.ntmps141 rfl rfl ?_
  refine x_seq ?_
  refine x_region ?_
  refine s_val rfl (v_assign rfl) ?_
  refine x_nil ?_
  refine n_then ?_
  refine x_seq ?_
  refine x_seq ?_
  refine x_region ?_
  refine s_val rfl (v_move rfl) ?_
  refine s_val rfl (v_eql_ptr_nil Tryz.underlying77 rfl rfl) ?_
  refine s_val rfl (v_move rfl) ?_
  refine s_or rfl rfl rfl ?_ ?_
  · intro g1_3
    cases g1_3
  · intro g1_3
    refine s_val rfl (v_move rfl) ?_
    refine s_yes rfl rfl ?_
    refine s_val rfl (v_lss rfl rfl) ?_
    refine s_val rfl (v_pick_f rfl rfl) ?_
    refine s_val rfl (v_move rfl) ?_
    refine s_or rfl rfl rfl ?_ ?_
    · intro g1_7
      refine s_no rfl rfl rfl rfl ?_
      refine s_no rfl rfl rfl rfl ?_
      refine s_no rfl rfl rfl rfl ?_
      refine s_no rfl rfl rfl rfl ?_
      refine s_no rfl rfl rfl rfl ?_
      refine s_no rfl rfl rfl rfl ?_
      refine s_val rfl (v_pick_t rfl rfl) ?_
      refine x_nil ?_
      refine n_then ?_
      refine x_ift rfl ?_
      refine x_seq ?_
      refine x_region ?_
      refine s_val rfl (v_assign rfl) ?_
      refine x_nil ?_
      refine n_then ?_
      refine x_ret ?_
      refine r_then ?_
      refine x_done (.inl rfl) (.cons (r_tmp rfl) .nil) ?_
      exact ⟨_, ⟨rfl, rfl⟩, inferInstance⟩
    · intro g1_7
      refine s_val rfl (v_move rfl) ?_
      refine s_yes rfl rfl ?_
      refine s_val rfl (v_move rfl) ?_
      refine s_yes rfl rfl ?_
      refine s_val rfl (v_nilCheck rfl) ?_
      refine s_yes rfl rfl ?_
      refine s_val rfl (v_fieldAddr rfl Tryz.underlying184 rfl Tryz.sizeOf182 rfl (by first | exact Nat.zero_add _ | rfl)) ?_
      refine s_yes rfl rfl ?_
      refine s_val rfl (v_load Tryz.isAgg182 rfl (cell_own rfl)) ?_
      refine s_yes rfl rfl ?_
      refine s_val rfl (v_len_slice Tryz.underlying182 rfl) ?_
      refine s_yes rfl rfl ?_
      refine s_val rfl (v_geq rfl rfl) ?_
      refine s_val rfl (v_pick_f rfl rfl) ?_
      refine x_nil ?_
      refine n_then ?_
      refine x_if rfl ?_ ?_
      · intro c1
        refine x_seq ?_
        refine x_region ?_
        refine s_val rfl (v_assign rfl) ?_
        refine x_nil ?_
        refine n_then ?_
        refine x_ret ?_
        refine r_then ?_
        refine x_done (.inl rfl) (.cons (r_tmp rfl) .nil) ?_
        exact ⟨_, ⟨rfl, rfl⟩, inferInstance⟩
      · intro c1
        omega
abbrev Row (W0 : World) (R : List HP) (g i : Nat) (x : Prt) (vi : Value) : Prop := Cells (OwnP W0 R) g (i * 3) [.int .i64 x.lab, .int .i64 x.gu, vi]
theorem prInbox_ok (W0 : World) (R : List HP) (p g n c i : Nat) (hi : i < n) (x : Prt) (vi : Value) (hc : Row W0 (pt p (cob [.slice (some ⟨g, 0, none⟩) n c, .bool true] 184) :: R) g i x vi) (hg : x.gu ≠ -1) :
    Spec Tryz.prog W0 128 [.pointer (some ⟨p, 0, none⟩), .int .i64 i] (pt p (cob [.slice (some ⟨g, 0, none⟩) n c, .bool true] 184) :: R)
      (fun v B => v = .pointer (some ⟨g, i * 3, none⟩) ∧ B = pt p (cob [.slice (some ⟨g, 0, none⟩) n c, .bool true] 184) :: R) := by
  refine spec_body Tryz.func128 Tryz.ntmps128 rfl rfl ?_
  refine x_seq ?_
  refine x_region ?_
  refine s_val rfl (v_assign rfl) ?_
  refine x_nil ?_
  refine n_then ?_
  refine x_seq ?_
  refine x_region ?_
  refine s_val rfl (v_move rfl) ?_
  refine s_val rfl (v_move rfl) ?_
  refine s_do rfl (d_call1 Tryz.call141 rfl (prAt_ok W0 _ p g n c i hi)) ?_
  rintro _ B_ ⟨rfl, hB_⟩
  obtain rfl := hB_.symm
  refine s_val rfl (v_assign rfl) ?_
  refine x_nil ?_
  refine n_then ?_
  refine x_seq ?_
  refine x_seq ?_
  refine x_region ?_
  refine s_val rfl (v_move rfl) ?_
  refine s_val rfl (v_eql_ptr_nil Tryz.underlying203 rfl rfl) ?_
  refine s_val rfl (v_move rfl) ?_
  refine s_or rfl rfl rfl ?_ ?_
  · intro g2_3
    cases g2_3
  · intro g2_3
    refine s_val rfl (v_move rfl) ?_
    refine s_yes rfl rfl ?_
    refine s_val rfl (v_nilCheck rfl) ?_
    refine s_yes rfl rfl ?_
    refine s_val rfl (v_fieldAddr rfl Tryz.underlying186 rfl Tryz.sizeOf81 rfl (by first | exact Nat.zero_add _ | rfl)) ?_
    refine s_yes rfl rfl ?_
    refine s_val rfl (v_fieldAddr rfl Tryz.underlying81 rfl Tryz.sizeOf3 rfl (by first | exact Nat.zero_add _ | rfl)) ?_
    refine s_yes rfl rfl ?_
    refine s_val rfl (v_load Tryz.isAgg3 rfl (Cells.weak hc 1 _ rfl)) ?_
    refine s_yes rfl rfl ?_
    refine s_val rfl (v_eql rfl rfl) ?_
    refine s_val rfl (v_pick_f rfl rfl) ?_
    refine x_nil ?_
    refine n_then ?_
    refine x_if rfl ?_ ?_
    · intro c2
      exact absurd c2 hg
    · intro c2
      refine x_skip ?_
      refine n_then ?_
      refine x_seq ?_
      refine x_region ?_
      refine s_val rfl (v_move rfl) ?_
      refine s_val rfl (v_assign rfl) ?_
      refine x_nil ?_
      refine n_then ?_
      refine x_ret ?_
      refine x_done (.inl rfl) (.cons (r_tmp rfl) .nil) ?_
      exact ⟨_, ⟨rfl, rfl⟩, inferInstance⟩
theorem prInbox_out (W0 : World) (R : List HP) (p g n c i : Nat) (hi : i < n) (x : Prt) (vi : Value) (hc : Row W0 (pt p (cob [.slice (some ⟨g, 0, none⟩) n c, .bool true] 184) :: R) g i x vi) (hg : x.gu = -1) :
    Spec Tryz.prog W0 128 [.pointer (some ⟨p, 0, none⟩), .int .i64 i] (pt p (cob [.slice (some ⟨g, 0, none⟩) n c, .bool true] 184) :: R)
      (fun v B => v = .pointer none ∧ B = pt p (cob [.slice (some ⟨g, 0, none⟩) n c, .bool true] 184) :: R) := by
  refine spec_body Tryz.func128 Tryz.ntmps128 rfl rfl ?_
  refine x_seq ?_
  refine x_region ?_
  refine s_val rfl (v_assign rfl) ?_
  refine x_nil ?_
  refine n_then ?_
  refine x_seq ?_
  refine x_region ?_
  refine s_val rfl (v_move rfl) ?_
  refine s_val rfl (v_move rfl) ?_
  refine s_do rfl (d_call1 Tryz.call141 rfl (prAt_ok W0 _ p g n c i hi)) ?_
  rintro _ B_ ⟨rfl, hB_⟩
  obtain rfl := hB_.symm
  refine s_val rfl (v_assign rfl) ?_
  refine x_nil ?_
  refine n_then ?_
  refine x_seq ?_
  refine x_seq ?_
  refine x_region ?_
  refine s_val rfl (v_move rfl) ?_
  refine s_val rfl (v_eql_ptr_nil Tryz.underlying203 rfl rfl) ?_
  refine s_val rfl (v_move rfl) ?_
  refine s_or rfl rfl rfl ?_ ?_
  · intro g2_3
    cases g2_3
  · intro g2_3
    refine s_val rfl (v_move rfl) ?_
    refine s_yes rfl rfl ?_
    refine s_val rfl (v_nilCheck rfl) ?_
    refine s_yes rfl rfl ?_
    refine s_val rfl (v_fieldAddr rfl Tryz.underlying186 rfl Tryz.sizeOf81 rfl (by first | exact Nat.zero_add _ | rfl)) ?_
    refine s_yes rfl rfl ?_
    refine s_val rfl (v_fieldAddr rfl Tryz.underlying81 rfl Tryz.sizeOf3 rfl (by first | exact Nat.zero_add _ | rfl)) ?_
    refine s_yes rfl rfl ?_
    refine s_val rfl (v_load Tryz.isAgg3 rfl (Cells.weak hc 1 _ rfl)) ?_
    refine s_yes rfl rfl ?_
    refine s_val rfl (v_eql rfl rfl) ?_
    refine s_val rfl (v_pick_f rfl rfl) ?_
    refine x_nil ?_
    refine n_then ?_
    refine x_if rfl ?_ ?_
    · intro c2
      refine x_seq ?_
      refine x_region ?_
      refine s_val rfl (v_assign rfl) ?_
      refine x_nil ?_
      refine n_then ?_
      refine x_ret ?_
      refine r_then ?_
      refine x_done (.inl rfl) (.cons (r_tmp rfl) .nil) ?_
      exact ⟨_, ⟨rfl, rfl⟩, inferInstance⟩
    · intro c2
      exact absurd hg c2
theorem prInbox_no (W0 : World) (R : List HP) (p n c : Nat) (a : Option Addr) (i : Int) (hi : ¬ (0 ≤ i ∧ i < n)) :
    Spec Tryz.prog W0 128 [.pointer (some ⟨p, 0, none⟩), .int .i64 i] (pt p (cob [.slice a n c, .bool true] 184) :: R)
      (fun v B => v = .pointer none ∧ B = pt p (cob [.slice a n c, .bool true] 184) :: R) := by
  refine spec_body Tryz.func128 Tryz.ntmps128 rfl rfl ?_
  refine x_seq ?_
  refine x_region ?_
  refine s_val rfl (v_assign rfl) ?_
  refine x_nil ?_
  refine n_then ?_
  refine x_seq ?_
  refine x_region ?_
  refine s_val rfl (v_move rfl) ?_
  refine s_val rfl (v_move rfl) ?_
  refine s_do rfl (d_call1 Tryz.call141 rfl (prAt_no W0 _ p n c a i hi)) ?_
  rintro _ B_ ⟨rfl, hB_⟩
  obtain rfl := hB_.symm
  refine s_val rfl (v_assign rfl) ?_
  refine x_nil ?_
  refine n_then ?_
  refine x_seq ?_
  refine x_seq ?_
  refine x_region ?_
  refine s_val rfl (v_move rfl) ?_
  refine s_val rfl (v_eql_ptr_nil Tryz.underlying203 rfl rfl) ?_
  refine s_val rfl (v_move rfl) ?_
  refine s_or rfl rfl rfl ?_ ?_
  · intro g2_3
    refine s_no rfl rfl rfl rfl ?_
    refine s_no rfl rfl rfl rfl ?_
    refine s_no rfl rfl rfl rfl ?_
    refine s_no rfl rfl rfl rfl ?_
    refine s_no rfl rfl rfl rfl ?_
    refine s_val rfl (v_pick_t rfl rfl) ?_
    refine x_nil ?_
    refine n_then ?_
    refine x_ift rfl ?_
    refine x_seq ?_
    refine x_region ?_
    refine s_val rfl (v_assign rfl) ?_
    refine x_nil ?_
    refine n_then ?_
    refine x_ret ?_
    refine r_then ?_
    refine x_done (.inl rfl) (.cons (r_tmp rfl) .nil) ?_
    exact ⟨_, ⟨rfl, rfl⟩, inferInstance⟩
  · intro g2_3
    exact absurd rfl g2_3
def mostP (x : Prt) : Nat := if x.gu = -1 then 64 else 4
def fullP (x : Prt) : Bool := decide (mostP x ≤ x.l.length)
theorem prMost_spec (W0 : World) (R : List HP) (g i : Nat) (x : Prt) (vi : Value) (hc : Row W0 R g i x vi) :
    Spec Tryz.prog W0 194 [.pointer (some ⟨g, i * 3, none⟩)] R (fun v B => v = .int .i64 (mostP x : Nat) ∧ B = R) := by
  refine spec_body Tryz.func194 Tryz.ntmps194 rfl rfl ?_
  refine x_seq ?_
  refine x_region ?_
  refine s_val rfl (v_assign rfl) ?_
  refine x_nil ?_
  refine n_then ?_
  refine x_seq ?_
  refine x_seq ?_
  refine x_region ?_
  refine s_val rfl (v_move rfl) ?_
  refine s_val rfl (v_nilCheck rfl) ?_
  refine s_val rfl (v_fieldAddr rfl Tryz.underlying186 rfl Tryz.sizeOf81 rfl (by first | exact Nat.zero_add _ | rfl)) ?_
  refine s_val rfl (v_fieldAddr rfl Tryz.underlying81 rfl Tryz.sizeOf3 rfl (by first | exact Nat.zero_add _ | rfl)) ?_
  refine s_val rfl (v_load Tryz.isAgg3 rfl (Cells.weak hc 1 _ rfl)) ?_
  refine s_val rfl (v_eql rfl rfl) ?_
  refine x_nil ?_
  refine n_then ?_
  refine x_if rfl ?_ ?_
  · intro c1
    refine x_seq ?_
    refine x_region ?_
    refine s_val rfl (v_assign rfl) ?_
    refine x_nil ?_
    refine n_then ?_
    refine x_ret ?_
    refine r_then ?_
    refine x_done (.inl rfl) (.cons (r_tmp rfl) .nil) ?_
    refine ⟨_, ⟨?_, rfl⟩, inferInstance⟩
    rw [mostP, if_pos c1]; rfl
  · intro c1
    refine x_skip ?_
    refine n_then ?_
    refine x_seq ?_
    refine x_region ?_
    refine s_val rfl (v_assign rfl) ?_
    refine x_nil ?_
    refine n_then ?_
    refine x_ret ?_
    refine x_done (.inl rfl) (.cons (r_tmp rfl) .nil) ?_
    refine ⟨_, ⟨?_, rfl⟩, inferInstance⟩
    rw [mostP, if_neg c1]; rfl
theorem prFull_spec (W0 : World) (R : List HP) (g i : Nat) (x : Prt) (a : Option Addr) (c : Nat) (hc : Row W0 R g i x (.slice a x.l.length c)) :
    Spec Tryz.prog W0 129 [.pointer (some ⟨g, i * 3, none⟩)] R (fun v B => v = .bool (fullP x) ∧ B = R) := by
  refine spec_body Tryz.func129 Tryz.ntmps129 rfl rfl ?_
  refine x_seq ?_
  refine x_region ?_
  refine s_val rfl (v_assign rfl) ?_
  refine x_nil ?_
  refine n_then ?_
  refine x_seq ?_
  refine x_draw [(g, i * 3, [.int .i64 x.lab, .int .i64 x.gu, .slice a x.l.length c])] 9 mixed rfl (sc_cons hc sc_end) (fun hS => ?_)
  refine d_take 0 rfl rfl (by kernel_rfl) (by kernel_rfl) (by kernel_rfl) rfl hS (v_move rfl) ?_
  refine d_take 1 rfl rfl (by kernel_rfl) (by kernel_rfl) (by kernel_rfl) rfl hS (v_nilCheck rfl) ?_
  refine d_take 2 rfl rfl (by kernel_rfl) (by kernel_rfl) (by kernel_rfl) rfl hS (v_fieldAddr rfl Tryz.underlying186 rfl Tryz.sizeOf97 rfl (by first | exact Nat.zero_add _ | rfl)) ?_
  refine d_take 3 rfl rfl (by kernel_rfl) (by kernel_rfl) (by kernel_rfl) rfl hS (v_load Tryz.isAgg97 rfl (cell_sc (k := 0) (j := 2) rfl rfl)) ?_
  refine d_take 4 rfl rfl (by kernel_rfl) (by kernel_rfl) (by kernel_rfl) rfl hS (v_len_slice Tryz.underlying97 rfl) ?_
  refine d_take 5 rfl rfl (by kernel_rfl) (by kernel_rfl) (by kernel_rfl) rfl hS (v_move rfl) ?_
  refine d_one 6 (by kernel_rfl) rfl rfl (d_call Tryz.call194 rfl (prMost_spec W0 _ g i x _ hc)) rfl ?_; clear hS
  rintro _ B_ ⟨rfl, hB_⟩
  obtain rfl := hB_.symm
  refine ⟨(sc_cons hc sc_end), fun hS => ?_⟩
  refine d_take 7 rfl rfl (by kernel_rfl) (by kernel_rfl) (by kernel_rfl) rfl hS (v_geq rfl rfl) ?_
  refine d_take 8 rfl rfl (by kernel_rfl) (by kernel_rfl) (by kernel_rfl) rfl hS (v_assign rfl) ?_
  refine d_done (by kernel_rfl) ?_; clear hS
  refine n_then ?_
  refine x_ret ?_
  refine x_done (.inl rfl) (.cons (r_tmp rfl) .nil) ?_
  refine ⟨_, ⟨?_, rfl⟩, inferInstance⟩
  refine congrArg Value.bool ?_
  rw [fullP, Bool.eq_iff_iff, decide_eq_true_iff, decide_eq_true_iff]; omega
def putPr (x : Prt) (s : ByteArray) : Prt := if fullP x then x else { x with l := x.l ++ [s] }
theorem prPut_spec (W0 : World) (R : List HP) (g i : Nat) (x : Prt) (a : Option Addr) (c : Nat) (cs : List Value) (s : ByteArray) (hcs : (cs.drop (i * 3)).take 3 = [.int .i64 x.lab, .int .i64 x.gu, .slice a x.l.length c]) (hN : x.l.length < 1000) (hlt : i * 3 + 3 ≤ cs.length) :
    Spec Tryz.prog W0 130 [.pointer (some ⟨g, i * 3, none⟩), sV s] (pt g (cob cs 186) :: osl 9 1 (.slice a x.l.length c) (strs x.l) :: R)
      (fun v B => v = .tuple #[] ∧ ∃ a' c', B = pt g (cob (cs.set (i * 3 + 2) (.slice a' (putPr x s).l.length c')) 186) :: osl 9 1 (.slice a' (putPr x s).l.length c') (strs (putPr x s).l) :: R) := by
  have hg2 : cs[i * 3 + 2]? = some (.slice a x.l.length c) := by
    have := congrArg (fun l => l[2]?) hcs
    simpa [List.getElem?_take, List.getElem?_drop] using this
  refine spec_body Tryz.func130 Tryz.ntmps130 rfl rfl ?_
  refine x_seq ?_
  refine x_region ?_
  refine s_val rfl (v_move rfl) ?_
  refine s_do rfl (d_call Tryz.call129 rfl (prFull_spec W0 _ g i x a c (cells_part hcs rfl))) ?_
  rintro _ B_ ⟨rfl, hB_⟩
  obtain rfl := hB_.symm
  refine s_val rfl (v_not rfl) ?_
  refine x_nil ?_
  refine n_then ?_
  refine x_if rfl ?_ ?_
  · intro c0
    have hf : fullP x = false := by simpa using c0
    have hp : putPr x s = { x with l := x.l ++ [s] } := by rw [putPr, hf, if_neg (by decide)]
    refine x_region ?_
    refine s_val rfl (v_move rfl) ?_
    refine s_val rfl (v_move rfl) ?_
    refine s_val rfl (v_nilCheck rfl) ?_
    refine s_val rfl (v_fieldAddr rfl Tryz.underlying186 rfl Tryz.sizeOf97 rfl (by first | exact Nat.zero_add _ | rfl)) ?_
    refine s_val rfl (v_load Tryz.isAgg97 rfl (cell_own hg2)) ?_
    refine s_val rfl (v_move rfl) ?_
    refine s_do rfl (d_sliceLit Tryz.underlying97 Tryz.sizeOf9 Tryz.zeroValue9 rfl rfl rfl rfl rfl (by decide) (by decide)) ?_
    rintro _ _ ⟨b1, rfl, rfl⟩
    refine s_do rfl (d_append (sz := 1) (by_ := 16) (info := Tryz.t9) Tryz.underlying97 (by kernel_rfl) rfl rfl rfl rfl (by decide) rfl rfl cells_all rfl rfl (by simp only [maxLen]; omega) (by omega)) ?_
    rintro _ _ ⟨a2, c2, rfl, rfl⟩
    refine s_val rfl (v_nilCheck rfl) ?_
    refine s_val rfl (v_fieldAddr rfl Tryz.underlying186 rfl Tryz.sizeOf97 rfl (by first | exact Nat.zero_add _ | rfl)) ?_
    refine s_do0 (d_store Tryz.sizeOf97 rfl rfl rfl (by omega) rfl) ?_
    rintro _ _ rfl
    refine x_nil ?_
    refine x_done (.inr rfl) .nil ?_
    rw [hp]
    have hl : (x.l ++ [s]).length = x.l.length + 1 := by simp
    refine ⟨_, ⟨rfl, a2, c2, rfl⟩, ?_⟩
    dsimp only
    rw [hl, strs_append, show strs [s] = [sV s] from rfl]
    exact inferInstance
  · intro c0
    have hf : fullP x = true := by simpa using c0
    have hp : putPr x s = x := by rw [putPr, if_pos hf]
    refine x_skip ?_
    refine x_done (.inr rfl) .nil ?_
    rw [hp]
    refine ⟨_, ⟨rfl, a, c, rfl⟩, ?_⟩
    rw [vs_self hg2]
    exact inferInstance
end Go.Proofs.YtechkfopkpkigaaGreat
namespace Go.Proofs.YtechkfopkpkigaaGreat
open Go.RowKit
set_option linter.unusedSimpArgs false
set_option linter.unusedVariables false
set_option maxRecDepth 20000
def inR (ps : List Prt) (i : Int) : Bool := decide (0 ≤ i ∧ i < ps.length)
theorem inR_iff {ps : List Prt} {i : Int} : inR ps i = true ↔ 0 ≤ i ∧ i < ps.length := by simp [inR]
def pAt (ps : List Prt) (i : Int) : Prt := ps.getD i.toNat default
def PrOk (ps : List Prt) : Prop := ps.length ≤ 8 ∧ ∀ x ∈ ps, x.l.length ≤ mostP x
theorem PrOk.at_ {ps : List Prt} (h : PrOk ps) {i : Nat} (hi : i < ps.length) : (ps.getD i default).l.length ≤ mostP (ps.getD i default) := by
  rw [show ps.getD i default = ps[i] by simp [List.getD, hi]]; exact h.2 _ (List.getElem_mem hi)
theorem mostP_le (x : Prt) : mostP x ≤ 64 := by unfold mostP; split <;> omega
theorem PrOk.set {ps : List Prt} (h : PrOk ps) {i : Nat} {x : Prt} (hx : x.l.length ≤ mostP x) : PrOk (ps.set i x) := ⟨by simpa using h.1, fun y hy => by
  rcases List.mem_or_eq_of_mem_set hy with q | q
  · exact h.2 y q
  · rw [q]; exact hx⟩
theorem putPr_ok {x : Prt} {s : ByteArray} (h : x.l.length ≤ mostP x) : (putPr x s).l.length ≤ mostP (putPr x s) := by
  unfold putPr; split
  · exact h
  · rename_i hf
    have hf' : ¬ mostP x ≤ x.l.length := by simpa [fullP] using hf
    show (x.l ++ [s]).length ≤ mostP x
    rw [List.length_append]; simp; omega
theorem putPr_l (x : Prt) (s : ByteArray) : { x with l := (putPr x s).l } = putPr x s := by unfold putPr; split <;> rfl
def sndB (ps : List Prt) (f t : Int) (s : ByteArray) : Bool := inR ps f && inR ps t && decide (s.size ≤ 32) && flB (pAt ps f).lab (pAt ps t).lab
def sndP (ps : List Prt) (f t : Int) (s : ByteArray) : List Prt := if sndB ps f t s then ps.set t.toNat (putPr (pAt ps t) s) else ps
theorem prSend_no (W0 : World) (R : List HP) (p : Nat) (ps : List Prt) (f t : Int) (s : ByteArray) (h : ¬ (inR ps f = true ∧ inR ps t = true)) :
    Spec Tryz.prog W0 119 [.pointer (some ⟨p, 0, none⟩), .int .i64 f, .int .i64 t, sV s] (portsH p ps :: R) (fun v B => v = .tuple #[] ∧ B = portsH p ps :: R) := by
  by_cases hf : inR ps f = true
  · have ht : ¬ inR ps t = true := fun q => h ⟨hf, q⟩
    obtain ⟨i, rfl, hi⟩ : ∃ i : Nat, f = (i : Int) ∧ i < ps.length := ⟨f.toNat, by have := inR_iff.1 hf; omega, by have := inR_iff.1 hf; omega⟩
    have ht' : ¬ (0 ≤ t ∧ t < ps.length) := fun q => ht (inR_iff.2 q)
    refine spec_body Tryz.func119 Tryz.ntmps119 rfl rfl ?_
    refine x_seq ?_
    refine run_portN (p := p) hi fun g c sp vs ai ci hv hvi h1 h2 h3 => ?_
    refine x_region ?_
    refine s_val rfl (v_move rfl) ?_
    refine s_val rfl (v_move rfl) ?_
    refine s_do rfl (d_call1 Tryz.call141 rfl (prAt_ok W0 _ p g ps.length c i hi)) ?_
    rintro _ B_ ⟨rfl, hB_⟩
    obtain rfl := hB_.symm
    refine s_val rfl (v_move rfl) ?_
    refine s_val rfl (v_move rfl) ?_
    refine s_do rfl (d_call1 Tryz.call141 rfl (prAt_no W0 _ p ps.length c (some ⟨g, 0, none⟩) t ht')) ?_
    rintro _ B_ ⟨rfl, hB_⟩
    obtain rfl := hB_.symm
    refine s_val rfl (v_assign rfl) ?_
    refine s_val rfl (v_assign rfl) ?_
    refine x_nil ?_
    refine n_then ?_
    refine x_seq ?_
    refine x_seq ?_
    refine x_region ?_
    refine s_val rfl (v_move rfl) ?_
    refine s_val rfl (v_eql_ptr_nil Tryz.underlying203 rfl rfl) ?_
    refine s_val rfl (v_move rfl) ?_
    refine s_or rfl rfl rfl ?_ ?_
    · intro g1_3
      cases g1_3
    · intro g1_3
      refine s_val rfl (v_move rfl) ?_
      refine s_yes rfl rfl ?_
      refine s_val rfl (v_eql_ptr_nil Tryz.underlying203 rfl rfl) ?_
      refine s_val rfl (v_pick_f rfl rfl) ?_
      refine s_val rfl (v_move rfl) ?_
      refine s_or rfl rfl rfl ?_ ?_
      · intro g1_7
        refine s_no rfl rfl rfl rfl ?_
        refine s_no rfl rfl rfl rfl ?_
        refine s_val rfl (v_pick_t rfl rfl) ?_
        refine x_nil ?_
        refine n_then ?_
        refine x_ift rfl ?_
        refine x_ret ?_
        refine r_then ?_
        refine x_done (.inl rfl) .nil ?_
        exact ⟨_, ⟨rfl, rfl⟩, ent_portS hv hvi rfl hi h1 h2 h3⟩
      · intro g1_7
        exact absurd rfl g1_7
  · have hf' : ¬ (0 ≤ f ∧ f < ps.length) := fun q => hf (inR_iff.2 q)
    by_cases ht : inR ps t = true
    · obtain ⟨i, rfl, hi⟩ : ∃ i : Nat, t = (i : Int) ∧ i < ps.length := ⟨t.toNat, by have := inR_iff.1 ht; omega, by have := inR_iff.1 ht; omega⟩
      refine spec_body Tryz.func119 Tryz.ntmps119 rfl rfl ?_
      refine x_seq ?_
      refine run_portN (p := p) hi fun g c sp vs ai ci hv hvi h1 h2 h3 => ?_
      refine x_region ?_
      refine s_val rfl (v_move rfl) ?_
      refine s_val rfl (v_move rfl) ?_
      refine s_do rfl (d_call1 Tryz.call141 rfl (prAt_no W0 _ p ps.length c (some ⟨g, 0, none⟩) f hf')) ?_
      rintro _ B_ ⟨rfl, hB_⟩
      obtain rfl := hB_.symm
      refine s_val rfl (v_move rfl) ?_
      refine s_val rfl (v_move rfl) ?_
      refine s_do rfl (d_call1 Tryz.call141 rfl (prAt_ok W0 _ p g ps.length c i hi)) ?_
      rintro _ B_ ⟨rfl, hB_⟩
      obtain rfl := hB_.symm
      refine s_val rfl (v_assign rfl) ?_
      refine s_val rfl (v_assign rfl) ?_
      refine x_nil ?_
      refine n_then ?_
      refine x_seq ?_
      refine x_seq ?_
      refine x_region ?_
      refine s_val rfl (v_move rfl) ?_
      refine s_val rfl (v_eql_ptr_nil Tryz.underlying203 rfl rfl) ?_
      refine s_val rfl (v_move rfl) ?_
      refine s_or rfl rfl rfl ?_ ?_
      · intro g1_3
        refine s_no rfl rfl rfl rfl ?_
        refine s_val rfl (v_pick_t rfl rfl) ?_
        refine s_val rfl (v_move rfl) ?_
        refine s_no rfl rfl rfl rfl ?_
        refine s_no rfl rfl rfl rfl ?_
        refine s_no rfl rfl rfl rfl ?_
        refine s_val rfl (v_pick_t rfl rfl) ?_
        refine x_nil ?_
        refine n_then ?_
        refine x_ift rfl ?_
        refine x_ret ?_
        refine r_then ?_
        refine x_done (.inl rfl) .nil ?_
        exact ⟨_, ⟨rfl, rfl⟩, ent_portS hv hvi rfl hi h1 h2 h3⟩
      · intro g1_3
        exact absurd rfl g1_3
    · have ht' : ¬ (0 ≤ t ∧ t < ps.length) := fun q => ht (inR_iff.2 q)
      refine spec_body Tryz.func119 Tryz.ntmps119 rfl rfl ?_
      refine x_seq ?_
      refine run_ports (p := p) fun a c vs hv => ?_
      refine x_region ?_
      refine s_val rfl (v_move rfl) ?_
      refine s_val rfl (v_move rfl) ?_
      refine s_do rfl (d_call1 Tryz.call141 rfl (prAt_no W0 _ p ps.length c a f hf')) ?_
      rintro _ B_ ⟨rfl, hB_⟩
      obtain rfl := hB_.symm
      refine s_val rfl (v_move rfl) ?_
      refine s_val rfl (v_move rfl) ?_
      refine s_do rfl (d_call1 Tryz.call141 rfl (prAt_no W0 _ p ps.length c a t ht')) ?_
      rintro _ B_ ⟨rfl, hB_⟩
      obtain rfl := hB_.symm
      refine s_val rfl (v_assign rfl) ?_
      refine s_val rfl (v_assign rfl) ?_
      refine x_nil ?_
      refine n_then ?_
      refine x_seq ?_
      refine x_seq ?_
      refine x_region ?_
      refine s_val rfl (v_move rfl) ?_
      refine s_val rfl (v_eql_ptr_nil Tryz.underlying203 rfl rfl) ?_
      refine s_val rfl (v_move rfl) ?_
      refine s_or rfl rfl rfl ?_ ?_
      · intro g1_3
        refine s_no rfl rfl rfl rfl ?_
        refine s_val rfl (v_pick_t rfl rfl) ?_
        refine s_val rfl (v_move rfl) ?_
        refine s_no rfl rfl rfl rfl ?_
        refine s_no rfl rfl rfl rfl ?_
        refine s_no rfl rfl rfl rfl ?_
        refine s_val rfl (v_pick_t rfl rfl) ?_
        refine x_nil ?_
        refine n_then ?_
        refine x_ift rfl ?_
        refine x_ret ?_
        refine r_then ?_
        refine x_done (.inl rfl) .nil ?_
        exact ⟨_, ⟨rfl, rfl⟩, ent_ports hv rfl⟩
      · intro g1_3
        exact absurd rfl g1_3
theorem prSend_spec (W0 : World) (R : List HP) (p : Nat) (ps : List Prt) (hok : PrOk ps) (f t : Int) (s : ByteArray) (hsz : s.size < 9223372036854775808) :
    Spec Tryz.prog W0 119 [.pointer (some ⟨p, 0, none⟩), .int .i64 f, .int .i64 t, sV s] (portsH p ps :: R) (fun v B => v = .tuple #[] ∧ B = portsH p (sndP ps f t s) :: R) := by
  by_cases h : inR ps f = true ∧ inR ps t = true
  · obtain ⟨hf, ht⟩ := h
    obtain ⟨i, rfl, hi⟩ : ∃ i : Nat, f = (i : Int) ∧ i < ps.length := ⟨f.toNat, by have := inR_iff.1 hf; omega, by have := inR_iff.1 hf; omega⟩
    obtain ⟨j, rfl, hj⟩ : ∃ j : Nat, t = (j : Int) ∧ j < ps.length := ⟨t.toNat, by have := inR_iff.1 ht; omega, by have := inR_iff.1 ht; omega⟩
    have hlj := hok.at_ hj
    have hmj := mostP_le (ps.getD j default)
    have hX1 : ¬ s.size ≤ 32 → sndP ps i j s = ps := fun q => by rw [sndP, sndB, decide_eq_false q]; simp
    have hX2 : ¬ flB (ps.getD i default).lab (ps.getD j default).lab = true → sndP ps i j s = ps := fun q => by
      have : sndB ps i j s = false := by
        rw [← Bool.not_eq_true]; intro k
        simp only [sndB, Bool.and_eq_true] at k
        exact q k.2
      rw [sndP, this, if_neg (by decide)]
    have hX3 : s.size ≤ 32 → flB (ps.getD i default).lab (ps.getD j default).lab = true → sndP ps i j s = ps.set j (putPr (ps.getD j default) s) := fun q1 q2 => by
      have : sndB ps i j s = true := by
        simp only [sndB, Bool.and_eq_true, decide_eq_true_iff]
        exact ⟨⟨⟨hf, ht⟩, q1⟩, q2⟩
      rw [sndP, if_pos this]; rfl
    refine spec_body Tryz.func119 Tryz.ntmps119 rfl rfl ?_
    refine x_seq ?_
    refine run_portN (p := p) hj fun g c sp vs ai ci hv hvi h1 h2 h3 => ?_
    have hrj := pr_row (sp := sp) hv hj hvi
    obtain ⟨vf, hvf⟩ : ∃ vf, vs[i]? = some vf := ⟨vs[i]'(by omega), by simp [hv, hi]⟩
    have hri := pr_row (sp := sp) hv hi hvf
    refine x_region ?_
    refine s_val rfl (v_move rfl) ?_
    refine s_val rfl (v_move rfl) ?_
    refine s_do rfl (d_call1 Tryz.call141 rfl (prAt_ok W0 _ p g ps.length c i hi)) ?_
    rintro _ B_ ⟨rfl, hB_⟩
    obtain rfl := hB_.symm
    refine s_val rfl (v_move rfl) ?_
    refine s_val rfl (v_move rfl) ?_
    refine s_do rfl (d_call1 Tryz.call141 rfl (prAt_ok W0 _ p g ps.length c j hj)) ?_
    rintro _ B_ ⟨rfl, hB_⟩
    obtain rfl := hB_.symm
    refine s_val rfl (v_assign rfl) ?_
    refine s_val rfl (v_assign rfl) ?_
    refine x_nil ?_
    refine n_then ?_
    refine x_seq ?_
    refine x_seq ?_
    refine x_region ?_
    refine s_val rfl (v_move rfl) ?_
    refine s_val rfl (v_eql_ptr_nil Tryz.underlying203 rfl rfl) ?_
    refine s_val rfl (v_move rfl) ?_
    refine s_or rfl rfl rfl ?_ ?_
    · intro g1_3
      cases g1_3
    · intro g1_3
      refine s_val rfl (v_move rfl) ?_
      refine s_yes rfl rfl ?_
      refine s_val rfl (v_eql_ptr_nil Tryz.underlying203 rfl rfl) ?_
      refine s_val rfl (v_pick_f rfl rfl) ?_
      refine s_val rfl (v_move rfl) ?_
      refine s_or rfl rfl rfl ?_ ?_
      · intro g1_7
        cases g1_7
      · intro g1_7
        refine s_val rfl (v_move rfl) ?_
        refine s_yes rfl rfl ?_
        refine s_val rfl (v_len_string Tryz.underlying9 rfl) ?_
        refine s_yes rfl rfl ?_
        refine s_val rfl (v_gtr rfl rfl) ?_
        refine s_val rfl (v_pick_f rfl rfl) ?_
        refine x_nil ?_
        refine n_then ?_
        refine x_if rfl ?_ ?_
        · intro c1
          rw [hX1 (by omega)]
          refine x_ret ?_
          refine r_then ?_
          refine x_done (.inl rfl) .nil ?_
          exact ⟨_, ⟨rfl, rfl⟩, ent_portS hv hvi rfl hj h1 h2 h3⟩
        · intro c1
          have hs32 : s.size ≤ 32 := by omega
          refine x_skip ?_
          refine n_then ?_
          refine x_seq ?_
          refine x_draw [(g, i * 3, [.int .i64 (ps.getD i default).lab, .int .i64 (ps.getD i default).gu, vf]), (g, j * 3, [.int .i64 (ps.getD j default).lab, .int .i64 (ps.getD j default).gu, .slice ai (ps.getD j default).l.length ci])] 11 mixed rfl (sc_cons (cells_part hri rfl) (sc_cons (cells_part hrj rfl) sc_end)) (fun hS => ?_)
          refine d_take 0 rfl rfl (by kernel_rfl) (by kernel_rfl) (by kernel_rfl) rfl hS (v_move rfl) ?_
          refine d_take 1 rfl rfl (by kernel_rfl) (by kernel_rfl) (by kernel_rfl) rfl hS (v_nilCheck rfl) ?_
          refine d_take 2 rfl rfl (by kernel_rfl) (by kernel_rfl) (by kernel_rfl) rfl hS (v_fieldAddr rfl Tryz.underlying186 rfl Tryz.sizeOf81 rfl (by first | exact Nat.zero_add _ | rfl)) ?_
          refine d_take 3 rfl rfl (by kernel_rfl) (by kernel_rfl) (by kernel_rfl) rfl hS (v_fieldAddr rfl Tryz.underlying81 rfl Tryz.sizeOf3 rfl (by first | exact Nat.zero_add _ | rfl)) ?_
          refine d_take 4 rfl rfl (by kernel_rfl) (by kernel_rfl) (by kernel_rfl) rfl hS (v_load Tryz.isAgg3 rfl (cell_sc (k := 0) (j := 0) rfl rfl)) ?_
          refine d_take 5 rfl rfl (by kernel_rfl) (by kernel_rfl) (by kernel_rfl) rfl hS (v_move rfl) ?_
          refine d_take 6 rfl rfl (by kernel_rfl) (by kernel_rfl) (by kernel_rfl) rfl hS (v_nilCheck rfl) ?_
          refine d_take 7 rfl rfl (by kernel_rfl) (by kernel_rfl) (by kernel_rfl) rfl hS (v_fieldAddr rfl Tryz.underlying186 rfl Tryz.sizeOf81 rfl (by first | exact Nat.zero_add _ | rfl)) ?_
          refine d_take 8 rfl rfl (by kernel_rfl) (by kernel_rfl) (by kernel_rfl) rfl hS (v_fieldAddr rfl Tryz.underlying81 rfl Tryz.sizeOf3 rfl (by first | exact Nat.zero_add _ | rfl)) ?_
          refine d_take 9 rfl rfl (by kernel_rfl) (by kernel_rfl) (by kernel_rfl) rfl hS (v_load Tryz.isAgg3 rfl (cell_sc (k := 1) (j := 0) rfl rfl)) ?_
          refine d_one 10 (by kernel_rfl) rfl rfl (d_call Tryz.call63 rfl (lbFlows_spec W0 _ (ps.getD i default).lab (ps.getD j default).lab)) rfl ?_; clear hS
          rintro _ B_ ⟨rfl, hB_⟩
          obtain rfl := hB_.symm
          refine ⟨(sc_cons (cells_part hri rfl) (sc_cons (cells_part hrj rfl) sc_end)), fun hS => ?_⟩
          refine d_done (by kernel_rfl) ?_; clear hS
          refine n_then ?_
          refine x_if rfl ?_ ?_
          · intro c2
            refine x_region ?_
            refine s_val rfl (v_move rfl) ?_
            refine s_val rfl (v_move rfl) ?_
            refine s_do rfl (d_call2 Tryz.call130 rfl (prPut_spec W0 _ g j (ps.getD j default) ai ci ((vs.zip ps).flatMap prV ++ sp) s hrj (by omega) (by rw [List.length_append, flat_len prV_len]; simp [hv]; omega))) ?_
            rintro _ B_ ⟨rfl, a2, cc, hB_⟩
            obtain rfl := hB_.symm
            refine x_nil ?_
            refine x_done (.inr rfl) .nil ?_
            rw [hX3 hs32 c2, ← putPr_l]
            exact ⟨_, ⟨rfl, rfl⟩, ent_portN (p := p) (g := g) (ps := ps) (i := j) (vs := vs) (sp := sp) (vi := .slice a2 (putPr (ps.getD j default) s).l.length cc) (pr_set hv hj) rfl hv rfl hj h1 h2 (by rw [List.length_set]; exact h3)⟩
          · intro c2
            refine x_skip ?_
            refine x_done (.inr rfl) .nil ?_
            rw [hX2 c2]
            exact ⟨_, ⟨rfl, rfl⟩, ent_portS hv hvi rfl hj h1 h2 h3⟩
  · have hX : sndP ps f t s = ps := by
      have : sndB ps f t s = false := by
        rw [← Bool.not_eq_true]; intro k
        simp only [sndB, Bool.and_eq_true] at k
        exact h ⟨k.1.1.1, k.1.1.2⟩
      rw [sndP, this, if_neg (by decide)]
    rw [hX]
    exact prSend_no W0 R p ps f t s h
end Go.Proofs.YtechkfopkpkigaaGreat
namespace Go.Proofs.YtechkfopkpkigaaGreat
open Go.RowKit
set_option linter.unusedSimpArgs false
set_option linter.unusedVariables false
set_option maxRecDepth 20000
def isIn (ps : List Prt) (i : Int) : Bool := inR ps i && decide ((pAt ps i).gu ≠ -1)
theorem isIn_nat {ps : List Prt} {i : Int} (h : isIn ps i = true) : ∃ k : Nat, i = (k : Int) ∧ k < ps.length ∧ (ps.getD k default).gu ≠ -1 := by
  simp only [isIn, Bool.and_eq_true, decide_eq_true_iff] at h
  have := inR_iff.1 h.1
  exact ⟨i.toNat, by omega, by omega, h.2⟩
theorem isIn_no {ps : List Prt} {i : Int} (h : ¬ isIn ps i = true) : (¬ (0 ≤ i ∧ i < ps.length)) ∨ ∃ k : Nat, i = (k : Int) ∧ k < ps.length ∧ (ps.getD k default).gu = -1 := by
  by_cases q : 0 ≤ i ∧ i < ps.length
  · right
    refine ⟨i.toNat, by omega, by omega, ?_⟩
    apply Decidable.byContradiction
    intro hg
    exact h (by simp only [isIn, Bool.and_eq_true, decide_eq_true_iff]; exact ⟨inR_iff.2 q, hg⟩)
  · exact .inl q
def wtP (ps : List Prt) (i : Int) : Nat := if isIn ps i then (pAt ps i).l.length else 0
theorem prWaits_spec (W0 : World) (R : List HP) (p : Nat) (ps : List Prt) (i : Int) :
    Spec Tryz.prog W0 46 [.pointer (some ⟨p, 0, none⟩), .int .i64 i] (portsH p ps :: R) (fun v B => v = .int .i64 (wtP ps i : Nat) ∧ B = portsH p ps :: R) := by
  by_cases h : isIn ps i = true
  · obtain ⟨k, rfl, hk, hg⟩ := isIn_nat h
    rw [wtP, if_pos h]
    refine spec_body Tryz.func46 Tryz.ntmps46 rfl rfl ?_
    refine x_seq ?_
    refine x_region ?_
    refine s_val rfl (v_assign rfl) ?_
    refine x_nil ?_
    refine n_then ?_
    refine x_seq ?_
    refine run_portN (p := p) hk fun g c sp vs ai ci hv hvi h1 h2 h3 => ?_
    have hrk := pr_row (sp := sp) hv hk hvi
    have hck : Cells (OwnP W0 (pt p (cob [.slice (some ⟨g, 0, none⟩) ps.length c, .bool true] 184) :: pt g (cob ((vs.zip ps).flatMap prV ++ sp) 186) :: osl 9 1 (.slice ai (ps.getD k default).l.length ci) (strs (ps.getD k default).l) :: kH 3 (grp (((vs.zip ps).map inS).eraseIdx k)) :: R)) g (k * 3) [.int .i64 (ps.getD k default).lab, .int .i64 (ps.getD k default).gu, .slice ai (ps.getD k default).l.length ci] := cells_part hrk rfl
    refine x_region ?_
    refine s_val rfl (v_move rfl) ?_
    refine s_val rfl (v_move rfl) ?_
    refine s_do rfl (d_call1 Tryz.call128 rfl (prInbox_ok W0 _ p g ps.length c k hk (ps.getD k default) _ (cells_part hrk rfl) hg)) ?_
    rintro _ B_ ⟨rfl, hB_⟩
    obtain rfl := hB_.symm
    refine s_val rfl (v_assign rfl) ?_
    refine x_nil ?_
    refine n_then ?_
    refine x_seq ?_
    refine x_seq ?_
    refine x_region ?_
    refine s_val rfl (v_move rfl) ?_
    refine s_val rfl (v_eql_ptr_nil Tryz.underlying203 rfl rfl) ?_
    refine x_nil ?_
    refine n_then ?_
    refine x_if rfl ?_ ?_
    · intro c2
      cases c2
    · intro c2
      refine x_skip ?_
      refine n_then ?_
      refine x_seq ?_
      refine x_region ?_
      refine s_val rfl (v_move rfl) ?_
      refine s_val rfl (v_nilCheck rfl) ?_
      refine s_val rfl (v_fieldAddr rfl Tryz.underlying186 rfl Tryz.sizeOf97 rfl (by first | exact Nat.zero_add _ | rfl)) ?_
      refine s_val rfl (v_load Tryz.isAgg97 rfl (Cells.weak hck 2 _ rfl)) ?_
      refine s_val rfl (v_len_slice Tryz.underlying97 rfl) ?_
      refine s_val rfl (v_assign rfl) ?_
      refine x_nil ?_
      refine n_then ?_
      refine x_ret ?_
      refine x_done (.inl rfl) (.cons (r_tmp rfl) .nil) ?_
      exact ⟨_, ⟨rfl, rfl⟩, ent_portS hv hvi rfl hk h1 h2 h3⟩
  · rw [wtP, if_neg h]
    rcases isIn_no h with hi | ⟨k, rfl, hk, hg⟩
    · skip
      refine spec_body Tryz.func46 Tryz.ntmps46 rfl rfl ?_
      refine x_seq ?_
      refine x_region ?_
      refine s_val rfl (v_assign rfl) ?_
      refine x_nil ?_
      refine n_then ?_
      refine x_seq ?_
      refine run_ports (p := p) fun a c vs hv => ?_
      refine x_region ?_
      refine s_val rfl (v_move rfl) ?_
      refine s_val rfl (v_move rfl) ?_
      refine s_do rfl (d_call1 Tryz.call128 rfl (prInbox_no W0 _ p ps.length c a i hi)) ?_
      rintro _ B_ ⟨rfl, hB_⟩
      obtain rfl := hB_.symm
      refine s_val rfl (v_assign rfl) ?_
      refine x_nil ?_
      refine n_then ?_
      refine x_seq ?_
      refine x_seq ?_
      refine x_region ?_
      refine s_val rfl (v_move rfl) ?_
      refine s_val rfl (v_eql_ptr_nil Tryz.underlying203 rfl rfl) ?_
      refine x_nil ?_
      refine n_then ?_
      refine x_if rfl ?_ ?_
      · intro c2
        refine x_seq ?_
        refine x_region ?_
        refine s_val rfl (v_assign rfl) ?_
        refine x_nil ?_
        refine n_then ?_
        refine x_ret ?_
        refine r_then ?_
        refine x_done (.inl rfl) (.cons (r_tmp rfl) .nil) ?_
        exact ⟨_, ⟨rfl, rfl⟩, ent_ports hv rfl⟩
      · intro c2
        exact absurd rfl c2
    · skip
      refine spec_body Tryz.func46 Tryz.ntmps46 rfl rfl ?_
      refine x_seq ?_
      refine x_region ?_
      refine s_val rfl (v_assign rfl) ?_
      refine x_nil ?_
      refine n_then ?_
      refine x_seq ?_
      refine run_portN (p := p) hk fun g c sp vs ai ci hv hvi h1 h2 h3 => ?_
      have hrk := pr_row (sp := sp) hv hk hvi
      refine x_region ?_
      refine s_val rfl (v_move rfl) ?_
      refine s_val rfl (v_move rfl) ?_
      refine s_do rfl (d_call1 Tryz.call128 rfl (prInbox_out W0 _ p g ps.length c k hk (ps.getD k default) _ (cells_part hrk rfl) hg)) ?_
      rintro _ B_ ⟨rfl, hB_⟩
      obtain rfl := hB_.symm
      refine s_val rfl (v_assign rfl) ?_
      refine x_nil ?_
      refine n_then ?_
      refine x_seq ?_
      refine x_seq ?_
      refine x_region ?_
      refine s_val rfl (v_move rfl) ?_
      refine s_val rfl (v_eql_ptr_nil Tryz.underlying203 rfl rfl) ?_
      refine x_nil ?_
      refine n_then ?_
      refine x_if rfl ?_ ?_
      · intro c2
        refine x_seq ?_
        refine x_region ?_
        refine s_val rfl (v_assign rfl) ?_
        refine x_nil ?_
        refine n_then ?_
        refine x_ret ?_
        refine r_then ?_
        refine x_done (.inl rfl) (.cons (r_tmp rfl) .nil) ?_
        exact ⟨_, ⟨rfl, rfl⟩, ent_portS hv hvi rfl hk h1 h2 h3⟩
      · intro c2
        exact absurd rfl c2
def tkB (ps : List Prt) (i : Int) : Bool := isIn ps i && decide ((pAt ps i).l ≠ [])
def tkV (ps : List Prt) (i : Int) : ByteArray := if tkB ps i then (pAt ps i).l.headD ByteArray.empty else ByteArray.empty
def tkP (ps : List Prt) (i : Int) : List Prt := if tkB ps i then ps.set i.toNat { pAt ps i with l := (pAt ps i).l.tail } else ps
theorem prTake_spec (W0 : World) (R : List HP) (p : Nat) (ps : List Prt) (hok : PrOk ps) (i : Int) :
    Spec Tryz.prog W0 112 [.pointer (some ⟨p, 0, none⟩), .int .i64 i] (portsH p ps :: R) (fun v B => v = .tuple #[sV (tkV ps i), .bool (tkB ps i)] ∧ B = portsH p (tkP ps i) :: R) := by
  by_cases h : isIn ps i = true
  · obtain ⟨k, rfl, hk, hg⟩ := isIn_nat h
    have hlk := hok.at_ hk
    have hmk := mostP_le (ps.getD k default)
    have hpk : pAt ps k = ps.getD k default := rfl
    by_cases h0 : (ps.getD k default).l = []
    · have hb : tkB ps k = false := by rw [tkB, hpk, decide_eq_false (fun q => q h0), Bool.and_false]
      rw [tkV, tkP, hb, if_neg (by decide), if_neg (by decide)]
      refine spec_body Tryz.func112 Tryz.ntmps112 rfl rfl ?_
      refine x_seq ?_
      refine x_region ?_
      refine s_val rfl (v_assign rfl) ?_
      refine s_val rfl (v_assign rfl) ?_
      refine x_nil ?_
      refine n_then ?_
      refine x_seq ?_
      refine run_portN (p := p) hk fun g c sp vs ai ci hv hvi h1 h2 h3 => ?_
      have hrk := pr_row (sp := sp) hv hk hvi
      have hck : Cells (OwnP W0 (pt p (cob [.slice (some ⟨g, 0, none⟩) ps.length c, .bool true] 184) :: pt g (cob ((vs.zip ps).flatMap prV ++ sp) 186) :: osl 9 1 (.slice ai (ps.getD k default).l.length ci) (strs (ps.getD k default).l) :: kH 3 (grp (((vs.zip ps).map inS).eraseIdx k)) :: R)) g (k * 3) [.int .i64 (ps.getD k default).lab, .int .i64 (ps.getD k default).gu, .slice ai (ps.getD k default).l.length ci] := cells_part hrk rfl
      have hz : (ps.getD k default).l.length = 0 := by rw [h0]; rfl
      refine x_region ?_
      refine s_val rfl (v_move rfl) ?_
      refine s_val rfl (v_move rfl) ?_
      refine s_do rfl (d_call1 Tryz.call128 rfl (prInbox_ok W0 _ p g ps.length c k hk (ps.getD k default) _ (cells_part hrk rfl) hg)) ?_
      rintro _ B_ ⟨rfl, hB_⟩
      obtain rfl := hB_.symm
      refine s_val rfl (v_assign rfl) ?_
      refine x_nil ?_
      refine n_then ?_
      refine x_seq ?_
      refine x_seq ?_
      refine x_region ?_
      refine s_val rfl (v_move rfl) ?_
      refine s_val rfl (v_eql_ptr_nil Tryz.underlying203 rfl rfl) ?_
      refine s_val rfl (v_move rfl) ?_
      refine s_or rfl rfl rfl ?_ ?_
      · intro g2_3
        cases g2_3
      · intro g2_3
        refine s_val rfl (v_move rfl) ?_
        refine s_yes rfl rfl ?_
        refine s_val rfl (v_nilCheck rfl) ?_
        refine s_yes rfl rfl ?_
        refine s_val rfl (v_fieldAddr rfl Tryz.underlying186 rfl Tryz.sizeOf97 rfl (by first | exact Nat.zero_add _ | rfl)) ?_
        refine s_yes rfl rfl ?_
        refine s_val rfl (v_load Tryz.isAgg97 rfl (Cells.weak hck 2 _ rfl)) ?_
        refine s_yes rfl rfl ?_
        refine s_val rfl (v_len_slice Tryz.underlying97 rfl) ?_
        refine s_yes rfl rfl ?_
        refine s_val rfl (v_eql rfl rfl) ?_
        refine s_val rfl (v_pick_f rfl rfl) ?_
        refine x_nil ?_
        refine n_then ?_
        refine x_if rfl ?_ ?_
        · intro c2
          refine x_seq ?_
          refine x_region ?_
          refine s_val rfl (v_assign rfl) ?_
          refine s_val rfl (v_assign rfl) ?_
          refine x_nil ?_
          refine n_then ?_
          refine x_ret ?_
          refine r_then ?_
          refine x_done (.inl rfl) (.cons (r_tmp rfl) (.cons (r_tmp rfl) .nil)) ?_
          exact ⟨_, ⟨rfl, rfl⟩, ent_portS hv hvi rfl hk h1 h2 h3⟩
        · intro c2
          omega
    · obtain ⟨s, l', hsl⟩ : ∃ s l', (ps.getD k default).l = s :: l' := by
        cases hq : (ps.getD k default).l with
        | nil => exact absurd hq h0
        | cons s l' => exact ⟨s, l', rfl⟩
      have hb : tkB ps k = true := by rw [tkB, hpk, h, decide_eq_true h0]; rfl
      have hll : (ps.getD k default).l.length = l'.length + 1 := by rw [hsl]; rfl
      rw [tkV, tkP, hb, if_pos rfl, if_pos rfl, hpk, hsl, show ps.set (k : Int).toNat { ps.getD k default with l := (s :: l').tail } = ps.set k { ps.getD k default with l := l' } from rfl]
      refine spec_body Tryz.func112 Tryz.ntmps112 rfl rfl ?_
      refine x_seq ?_
      refine x_region ?_
      refine s_val rfl (v_assign rfl) ?_
      refine s_val rfl (v_assign rfl) ?_
      refine x_nil ?_
      refine n_then ?_
      refine x_seq ?_
      refine run_portN (p := p) hk fun g c sp vs ai ci hv hvi h1 h2 h3 => ?_
      have hrk := pr_row (sp := sp) hv hk hvi
      have hck : Cells (OwnP W0 (pt p (cob [.slice (some ⟨g, 0, none⟩) ps.length c, .bool true] 184) :: pt g (cob ((vs.zip ps).flatMap prV ++ sp) 186) :: osl 9 1 (.slice ai (ps.getD k default).l.length ci) (strs (ps.getD k default).l) :: kH 3 (grp (((vs.zip ps).map inS).eraseIdx k)) :: R)) g (k * 3) [.int .i64 (ps.getD k default).lab, .int .i64 (ps.getD k default).gu, .slice ai (ps.getD k default).l.length ci] := cells_part hrk rfl
      refine x_region ?_
      refine s_val rfl (v_move rfl) ?_
      refine s_val rfl (v_move rfl) ?_
      refine s_do rfl (d_call1 Tryz.call128 rfl (prInbox_ok W0 _ p g ps.length c k hk (ps.getD k default) _ (cells_part hrk rfl) hg)) ?_
      rintro _ B_ ⟨rfl, hB_⟩
      obtain rfl := hB_.symm
      refine s_val rfl (v_assign rfl) ?_
      refine x_nil ?_
      refine n_then ?_
      refine x_seq ?_
      refine x_seq ?_
      refine x_region ?_
      refine s_val rfl (v_move rfl) ?_
      refine s_val rfl (v_eql_ptr_nil Tryz.underlying203 rfl rfl) ?_
      refine s_val rfl (v_move rfl) ?_
      refine s_or rfl rfl rfl ?_ ?_
      · intro g2_3
        cases g2_3
      · intro g2_3
        refine s_val rfl (v_move rfl) ?_
        refine s_yes rfl rfl ?_
        refine s_val rfl (v_nilCheck rfl) ?_
        refine s_yes rfl rfl ?_
        refine s_val rfl (v_fieldAddr rfl Tryz.underlying186 rfl Tryz.sizeOf97 rfl (by first | exact Nat.zero_add _ | rfl)) ?_
        refine s_yes rfl rfl ?_
        refine s_val rfl (v_load Tryz.isAgg97 rfl (Cells.weak hck 2 _ rfl)) ?_
        refine s_yes rfl rfl ?_
        refine s_val rfl (v_len_slice Tryz.underlying97 rfl) ?_
        refine s_yes rfl rfl ?_
        refine s_val rfl (v_eql rfl rfl) ?_
        refine s_val rfl (v_pick_f rfl rfl) ?_
        refine x_nil ?_
        refine n_then ?_
        refine x_if rfl ?_ ?_
        · intro c2
          omega
        · intro c2
          refine x_skip ?_
          refine n_then ?_
          refine x_seq ?_
          refine run_sla (E := 9) (sz := 1) (a := ai) (n := (ps.getD k default).l.length) (c := ci) (fun s => [sV s]) (ps.getD k default).l (fun _ => rfl) (by decide) (strs_flat _) (fun hs => ?_)
          refine run_cap (E := 9) (sz := 1) (a := ai) (c := ci) (n := (ps.getD k default).l.length) (fun hcap => ?_)
          obtain ⟨gb, ob, rfl, hcb⟩ := hs.at_ (i := 0) (by omega)
          have hs0 : (ps.getD k default).l[0]'(by omega) = s := by simp only [hsl]; rfl
          rw [hs0] at hcb
          refine x_region ?_
          refine s_val rfl (v_move rfl) ?_
          refine s_val rfl (v_nilCheck rfl) ?_
          refine s_val rfl (v_fieldAddr rfl Tryz.underlying186 rfl Tryz.sizeOf97 rfl (by first | exact Nat.zero_add _ | rfl)) ?_
          refine s_val rfl (v_load Tryz.isAgg97 rfl (Cells.weak hck 2 _ rfl)) ?_
          refine s_val rfl (v_idx Tryz.underlying97 Tryz.sizeOf9 rfl rfl (j := 0) rfl (by omega) (by first | exact Nat.zero_add _ | rfl)) ?_
          refine s_val rfl (v_load Tryz.isAgg9 rfl (Cells.weak hcb 0 _ rfl)) ?_
          refine s_val rfl (v_assign rfl) ?_
          refine x_nil ?_
          refine n_then ?_
          refine x_seq ?_
          refine x_region ?_
          refine s_val rfl (v_move rfl) ?_
          refine s_val rfl (v_move rfl) ?_
          refine s_val rfl (v_nilCheck rfl) ?_
          refine s_val rfl (v_fieldAddr rfl Tryz.underlying186 rfl Tryz.sizeOf97 rfl (by first | exact Nat.zero_add _ | rfl)) ?_
          refine s_val rfl (v_load Tryz.isAgg97 rfl (Cells.weak hck 2 _ rfl)) ?_
          refine s_val rfl (v_sliceLg Tryz.underlying97 Tryz.sizeOf9 rfl (i := 1) rfl rfl (by omega) rfl) ?_
          refine s_do rfl (d_call Tryz.call142 rfl (cloneStr_spec W0 _ l' _ ((ps.getD k default).l.length - 1) (ci - 1) (by omega) (by omega) (by
  have hsub := hs.sub (c := ci) (i := 1) (k := l'.length) (by omega) (by omega)
  rw [show ((ps.getD k default).l.drop 1).take l'.length = l' by rw [hsl]; simp] at hsub
  exact hsub))) ?_
          rintro _ B_ ⟨a2, cc, rfl, hB_⟩
          obtain rfl := hB_.symm
          refine s_val rfl (v_nilCheck rfl) ?_
          refine s_val rfl (v_fieldAddr rfl Tryz.underlying186 rfl Tryz.sizeOf97 rfl (by first | exact Nat.zero_add _ | rfl)) ?_
          refine s_do0 (d_store Tryz.sizeOf97 rfl rfl rfl (by rw [List.length_append, flat_len prV_len]; simp [hv]; omega) rfl) ?_
          rintro _ _ rfl
          refine x_nil ?_
          refine n_then ?_
          refine x_seq ?_
          refine x_region ?_
          refine s_val rfl (v_move rfl) ?_
          refine s_val rfl (v_assign rfl) ?_
          refine s_val rfl (v_assign rfl) ?_
          refine x_nil ?_
          refine n_then ?_
          refine x_ret ?_
          refine x_done (.inl rfl) (.cons (r_tmp rfl) (.cons (r_tmp rfl) .nil)) ?_
          exact ⟨_, ⟨rfl, rfl⟩, (Ent.ofPerm (perm3 (r1 := pt) (b1 := p) (r2 := pt) (b2 := g) (r3 := osl 9 1) (b3 := .slice a2 ((ps.getD k default).l.length - 1) cc))).trans (ent_portN (p := p) (g := g) (ps := ps) (i := k) (vs := vs) (sp := sp) (vi := .slice a2 ((ps.getD k default).l.length - 1) cc) (pr_set hv hk) rfl hv rfl hk h1 h2 (by rw [List.length_set]; exact h3))⟩
  · have hb : tkB ps i = false := by simp [tkB, h]
    rw [tkV, tkP, hb, if_neg (by decide), if_neg (by decide)]
    rcases isIn_no h with hi | ⟨k, rfl, hk, hg⟩
    · skip
      refine spec_body Tryz.func112 Tryz.ntmps112 rfl rfl ?_
      refine x_seq ?_
      refine x_region ?_
      refine s_val rfl (v_assign rfl) ?_
      refine s_val rfl (v_assign rfl) ?_
      refine x_nil ?_
      refine n_then ?_
      refine x_seq ?_
      refine run_ports (p := p) fun a c vs hv => ?_
      refine x_region ?_
      refine s_val rfl (v_move rfl) ?_
      refine s_val rfl (v_move rfl) ?_
      refine s_do rfl (d_call1 Tryz.call128 rfl (prInbox_no W0 _ p ps.length c a i hi)) ?_
      rintro _ B_ ⟨rfl, hB_⟩
      obtain rfl := hB_.symm
      refine s_val rfl (v_assign rfl) ?_
      refine x_nil ?_
      refine n_then ?_
      refine x_seq ?_
      refine x_seq ?_
      refine x_region ?_
      refine s_val rfl (v_move rfl) ?_
      refine s_val rfl (v_eql_ptr_nil Tryz.underlying203 rfl rfl) ?_
      refine s_val rfl (v_move rfl) ?_
      refine s_or rfl rfl rfl ?_ ?_
      · intro g2_3
        refine s_no rfl rfl rfl rfl ?_
        refine s_no rfl rfl rfl rfl ?_
        refine s_no rfl rfl rfl rfl ?_
        refine s_no rfl rfl rfl rfl ?_
        refine s_no rfl rfl rfl rfl ?_
        refine s_val rfl (v_pick_t rfl rfl) ?_
        refine x_nil ?_
        refine n_then ?_
        refine x_ift rfl ?_
        refine x_seq ?_
        refine x_region ?_
        refine s_val rfl (v_assign rfl) ?_
        refine s_val rfl (v_assign rfl) ?_
        refine x_nil ?_
        refine n_then ?_
        refine x_ret ?_
        refine r_then ?_
        refine x_done (.inl rfl) (.cons (r_tmp rfl) (.cons (r_tmp rfl) .nil)) ?_
        exact ⟨_, ⟨rfl, rfl⟩, ent_ports hv rfl⟩
      · intro g2_3
        exact absurd rfl g2_3
    · skip
      refine spec_body Tryz.func112 Tryz.ntmps112 rfl rfl ?_
      refine x_seq ?_
      refine x_region ?_
      refine s_val rfl (v_assign rfl) ?_
      refine s_val rfl (v_assign rfl) ?_
      refine x_nil ?_
      refine n_then ?_
      refine x_seq ?_
      refine run_portN (p := p) hk fun g c sp vs ai ci hv hvi h1 h2 h3 => ?_
      have hrk := pr_row (sp := sp) hv hk hvi
      refine x_region ?_
      refine s_val rfl (v_move rfl) ?_
      refine s_val rfl (v_move rfl) ?_
      refine s_do rfl (d_call1 Tryz.call128 rfl (prInbox_out W0 _ p g ps.length c k hk (ps.getD k default) _ (cells_part hrk rfl) hg)) ?_
      rintro _ B_ ⟨rfl, hB_⟩
      obtain rfl := hB_.symm
      refine s_val rfl (v_assign rfl) ?_
      refine x_nil ?_
      refine n_then ?_
      refine x_seq ?_
      refine x_seq ?_
      refine x_region ?_
      refine s_val rfl (v_move rfl) ?_
      refine s_val rfl (v_eql_ptr_nil Tryz.underlying203 rfl rfl) ?_
      refine s_val rfl (v_move rfl) ?_
      refine s_or rfl rfl rfl ?_ ?_
      · intro g2_3
        refine s_no rfl rfl rfl rfl ?_
        refine s_no rfl rfl rfl rfl ?_
        refine s_no rfl rfl rfl rfl ?_
        refine s_no rfl rfl rfl rfl ?_
        refine s_no rfl rfl rfl rfl ?_
        refine s_val rfl (v_pick_t rfl rfl) ?_
        refine x_nil ?_
        refine n_then ?_
        refine x_ift rfl ?_
        refine x_seq ?_
        refine x_region ?_
        refine s_val rfl (v_assign rfl) ?_
        refine s_val rfl (v_assign rfl) ?_
        refine x_nil ?_
        refine n_then ?_
        refine x_ret ?_
        refine r_then ?_
        refine x_done (.inl rfl) (.cons (r_tmp rfl) (.cons (r_tmp rfl) .nil)) ?_
        exact ⟨_, ⟨rfl, rfl⟩, ent_portS hv hvi rfl hk h1 h2 h3⟩
      · intro g2_3
        exact absurd rfl g2_3
end Go.Proofs.YtechkfopkpkigaaGreat
namespace Go.Proofs.YtechkfopkpkigaaGreat
open Go.RowKit
set_option linter.unusedSimpArgs false
set_option linter.unusedVariables false
set_option maxRecDepth 20000
abbrev Pt2 := Int × Int
@[reducible] def ptV2 (x : Pt2) : List Value := [.int .i64 x.1, .int .i64 x.2]
def newP (l : List Pt2) : List Prt := l.map fun x => ⟨x.1, x.2, []⟩
theorem newP_len (l : List Pt2) : (newP l).length = l.length := by simp [newP]
theorem newP_ok {l : List Pt2} (h : l.length ≤ 8) : PrOk (newP l) := ⟨by rw [newP_len]; exact h, fun x hx => by
  obtain ⟨y, _, rfl⟩ := List.mem_map.1 hx
  exact Nat.zero_le _⟩
def nilS : Value := .slice none 0 0
theorem ent_boxes {R : List HP} : ∀ l : List Pt2, Ent R (kH 2 (grp (((List.replicate l.length nilS).zip (newP l)).map inS)) :: R)
  | [] => ent_shut (A := [])
  | x :: l => by
    have ih := ent_boxes (R := R) l
    refine ih.trans ?_
    refine (ent_open (A := ((List.replicate l.length nilS).zip (newP l)).map inS) (R := R)).trans ?_
    refine (ent_osl_nil (E := 9) (sz := 1) (B := ((List.replicate l.length nilS).zip (newP l)).map inS ++ R)).trans ?_
    exact ent_shut (A := inS (nilS, ⟨x.1, x.2, []⟩) :: ((List.replicate l.length nilS).zip (newP l)).map inS) (R := R)
theorem rows_new (l : List Pt2) : ((List.replicate l.length nilS).zip (newP l)).flatMap prV = l.flatMap fun x => [.int .i64 x.1, .int .i64 x.2, nilS] := by
  induction l with
  | nil => rfl
  | cons x l ih =>
    rw [List.flatMap_cons, ← ih]
    rfl
theorem prNew_spec (W0 : World) (R : List HP) (l : List Pt2) (a : Option Addr) (n c : Nat) (hln : l.length = n) (hn : n ≤ 8) (hs : SlA (OwnP W0 R) a 2 ptV2 l) (hlab : ∀ x ∈ l, isL x.1 = true) :
    Spec Tryz.prog W0 39 [.slice a n c] R (fun v B => ∃ p, v = .tuple #[.pointer (some ⟨p, 0, none⟩), .int .i64 0] ∧ B = portsH p (newP l) :: R) := by
  subst hln
  refine spec_body Tryz.func39 Tryz.ntmps39 rfl rfl ?_
  refine x_seq ?_
  refine x_region ?_
  refine s_val rfl (v_assign rfl) ?_
  refine s_val rfl (v_assign rfl) ?_
  refine x_nil ?_
  refine n_then ?_
  refine x_seq ?_
  refine x_seq ?_
  refine x_region ?_
  refine s_val rfl (v_move rfl) ?_
  refine s_val rfl (v_len_slice Tryz.underlying24 rfl) ?_
  refine s_val rfl (v_gtr rfl rfl) ?_
  refine x_nil ?_
  refine n_then ?_
  refine x_if rfl ?_ ?_
  · intro c1
    omega
  · intro c1
    refine x_skip ?_
    refine n_then ?_
    refine x_seq ?_
    refine x_region ?_
    refine s_val rfl (v_build Tryz.underlying184 Tryz.zeroValue184 (sized_cons Tryz.sizeOf182 (sized_cons Tryz.sizeOf4 sized_nil)) (fil_scal rfl Tryz.sizeOf4 rfl rfl (Nat.le_of_ble_eq_true rfl) SetL.eq fil_nil)) ?_
    refine s_do rfl (d_boxA rfl) ?_
    rintro _ _ ⟨p, rfl, rfl⟩
    refine s_val rfl (v_assign rfl) ?_
    refine x_nil ?_
    refine n_then ?_
    refine x_seq ?_
    refine x_seq ?_
    refine x_region ?_
    refine s_val rfl (v_move rfl) ?_
    refine s_val rfl (v_len_slice Tryz.underlying24 rfl) ?_
    refine s_val rfl (v_move rfl) ?_
    refine x_nil ?_
    refine n_then ?_
    refine x_block ?_
    refine x_loop (fun X : Nat × Option Addr × Nat => X.1 ≤ l.length) (fun X => [(4, .pointer (some ⟨p, 0, none⟩)), (12, .slice a l.length c), (13, .int .i64 (l.length : Nat)), (14, .int .i64 X.1)]) (fun X => pt p (cob [.slice X.2.1 X.1 X.2.2, .bool true] 184) :: osl 186 3 (.slice X.2.1 X.1 X.2.2) ((l.take X.1).flatMap fun x => [.int .i64 x.1, .int .i64 x.2, nilS]) :: R) (fun X => l.length - X.1) (0, none, 0) ?_ ?_ ?_ ?_
    · exact Nat.zero_le _
    · repeat (first | exact sub_nil | refine sub_cons rfl ?_)
    · exact (Ent.cons (ent_osl_nil (E := 186) (sz := 3)))
    · intro ⟨i, a2, c2⟩ hi
      dsimp only at hi ⊢
      refine x_seq ?_
      refine x_region ?_
      refine s_val rfl (v_lss rfl rfl) ?_
      refine x_nil ?_
      refine n_then ?_
      refine x_seq ?_
      refine x_if rfl ?_ ?_
      · intro c5
        have hi1 : i < l.length := by omega
        obtain ⟨g, o, rfl, hc⟩ := hs.at_ hi1
        have hlb := hlab _ (List.getElem_mem hi1)
        have htk : l.take (i + 1) = l.take i ++ [l[i]] := List.take_succ_eq_append_getElem hi1
        refine x_skip ?_
        refine n_then ?_
        refine x_seq ?_
        refine x_block ?_
        refine x_seq ?_
        refine x_region ?_
        refine s_val rfl (v_idx Tryz.underlying24 Tryz.sizeOf81 rfl rfl rfl hi1 (by first | exact Nat.zero_add _ | rfl)) ?_
        refine s_val rfl (v_loadAgg Tryz.isAgg81 Tryz.sizeOf81 rfl hc.weak rfl) ?_
        refine s_do rfl (d_allocA Tryz.zeroValue81) ?_
        rintro _ _ ⟨bx, rfl, rfl⟩
        refine s_do0 (d_storeAll Tryz.sizeOf81 rfl rfl rfl rfl rfl) ?_
        rintro _ _ rfl
        refine x_nil ?_
        refine n_then ?_
        refine x_seq ?_
        refine x_seq ?_
        refine x_region ?_
        refine s_val rfl (v_fieldAddr rfl Tryz.underlying81 rfl Tryz.sizeOf3 rfl (by first | exact Nat.zero_add _ | rfl)) ?_
        refine s_val rfl (v_load Tryz.isAgg3 rfl (cell_own rfl)) ?_
        refine s_do rfl (d_call Tryz.call113 rfl (lbCount_spec W0 _ l[i].1)) ?_
        rintro _ B_ ⟨m, rfl, hm, hB_⟩
        obtain rfl := hB_.symm
        rw [hlb] at hm
        have hm0 : ¬ m < 0 := by simpa using hm
        refine s_val rfl (v_lss rfl rfl) ?_
        refine x_nil ?_
        refine n_then ?_
        refine x_if rfl ?_ ?_
        · intro c7
          exact absurd c7 hm0
        · intro c7
          refine x_skip ?_
          refine n_then ?_
          refine x_draw [(bx, 0, _)] 12 mixed rfl (sc_own sc_end) (fun hS => ?_)
          refine d_take 0 rfl rfl (by kernel_rfl) (by kernel_rfl) (by kernel_rfl) rfl hS (v_move rfl) ?_
          refine d_take 1 rfl rfl (by kernel_rfl) (by kernel_rfl) (by kernel_rfl) rfl hS (v_move rfl) ?_
          refine d_take 2 rfl rfl (by kernel_rfl) (by kernel_rfl) (by kernel_rfl) rfl hS (v_nilCheck rfl) ?_
          refine d_take 3 rfl rfl (by kernel_rfl) (by kernel_rfl) (by kernel_rfl) rfl hS (v_fieldAddr rfl Tryz.underlying184 rfl Tryz.sizeOf182 rfl (by first | exact Nat.zero_add _ | rfl)) ?_
          refine d_take 5 rfl rfl (by kernel_rfl) (by kernel_rfl) (by kernel_rfl) rfl hS (v_loadAgg Tryz.isAgg81 Tryz.sizeOf81 rfl (cells_sc (k := 0) rfl) rfl) ?_
          refine d_take 6 rfl rfl (by kernel_rfl) (by kernel_rfl) (by kernel_rfl) rfl hS (v_build Tryz.underlying186 Tryz.zeroValue186 (sized_cons Tryz.sizeOf81 (sized_cons Tryz.sizeOf97 sized_nil)) (fil_agg rfl Tryz.sizeOf81 rfl rfl (Nat.le_of_ble_eq_true rfl) SetRL.eq fil_nil)) ?_
          refine d_all (is := [4, 7]) (by kernel_rfl) rfl ⟨?_, ?_, trivial⟩
          · skip
            refine dx_one rfl rfl (d_val (v_load Tryz.isAgg182 rfl (cell_own rfl))) rfl ?_; clear hS
            rintro _ _ ⟨rfl, rfl⟩
            refine ⟨(sc_own sc_end), fun hS => ?_⟩
            refine d_one 7 (by kernel_rfl) rfl rfl (d_sliceAgg Tryz.underlying182 Tryz.sizeOf186 Tryz.zeroValue186 rfl (elsK_cons rfl rfl elsK_nil) rfl (by decide) (by decide) (by decide)) rfl ?_; clear hS
            rintro _ _ ⟨b3, rfl, rfl⟩
            refine ⟨(sc_own sc_end), fun hS => ?_⟩
            refine d_one 8 (by kernel_rfl) rfl rfl (d_append (sz := 3) (by_ := 40) (info := Tryz.t186) Tryz.underlying182 (by kernel_rfl) rfl rfl rfl rfl (by decide) rfl rfl cells_all rfl rfl (by simp only [maxLen]; omega) (by omega)) rfl ?_; clear hS
            rintro _ _ ⟨a3, c3, rfl, rfl⟩
            refine ⟨(sc_own sc_end), fun hS => ?_⟩
            refine d_take 9 rfl rfl (by kernel_rfl) (by kernel_rfl) (by kernel_rfl) rfl hS (v_nilCheck rfl) ?_
            refine d_take 10 rfl rfl (by kernel_rfl) (by kernel_rfl) (by kernel_rfl) rfl hS (v_fieldAddr rfl Tryz.underlying184 rfl Tryz.sizeOf182 rfl (by first | exact Nat.zero_add _ | rfl)) ?_
            refine d_one 11 (by kernel_rfl) rfl rfl (d_store Tryz.sizeOf182 rfl rfl rfl (Nat.le_of_ble_eq_true rfl) SetL.eq) rfl ?_; clear hS
            rintro _ _ rfl
            refine ⟨(sc_own sc_end), fun hS => ?_⟩
            refine d_done (by kernel_rfl) ?_; clear hS
            refine n_block ?_
            refine n_then ?_
            refine x_region ?_
            refine s_val rfl (v_add rfl rfl (by first | exact w64 (by omega) | rfl)) ?_
            refine s_val rfl (v_move rfl) ?_
            refine x_nil ?_
            refine n_then ?_
            refine inv_intro (i + 1, a3, c3) ?_ ?_ ?_ ?_
            · omega
            · omega
            · repeat (first | exact sub_nil | refine sub_cons rfl ?_)
            · dsimp only
              rw [htk, List.flatMap_append]
              show Ent _ (pt p (cob [.slice a3 (i + 1) c3, .bool true] 184) :: osl 186 3 (.slice a3 (i + 1) c3) (((l.take i).flatMap fun x => [.int .i64 x.1, .int .i64 x.2, nilS]) ++ [[.int .i64 l[i].1, .int .i64 l[i].2, .slice none 0 0]].flatten) :: R)
              exact inferInstance
          · skip
            refine dx_one rfl rfl (d_sliceAgg Tryz.underlying182 Tryz.sizeOf186 Tryz.zeroValue186 rfl (elsK_cons rfl rfl elsK_nil) rfl (by decide) (by decide) (by decide)) rfl ?_; clear hS
            rintro _ _ ⟨b3, rfl, rfl⟩
            refine ⟨(sc_own sc_end), fun hS => ?_⟩
            refine d_one 4 (by kernel_rfl) rfl rfl (d_val (v_load Tryz.isAgg182 rfl (cell_own rfl))) rfl ?_; clear hS
            rintro _ _ ⟨rfl, rfl⟩
            refine ⟨(sc_own sc_end), fun hS => ?_⟩
            refine d_one 8 (by kernel_rfl) rfl rfl (d_append (sz := 3) (by_ := 40) (info := Tryz.t186) Tryz.underlying182 (by kernel_rfl) rfl rfl rfl rfl (by decide) rfl rfl cells_all rfl rfl (by simp only [maxLen]; omega) (by omega)) rfl ?_; clear hS
            rintro _ _ ⟨a3, c3, rfl, rfl⟩
            refine ⟨(sc_own sc_end), fun hS => ?_⟩
            refine d_take 9 rfl rfl (by kernel_rfl) (by kernel_rfl) (by kernel_rfl) rfl hS (v_nilCheck rfl) ?_
            refine d_take 10 rfl rfl (by kernel_rfl) (by kernel_rfl) (by kernel_rfl) rfl hS (v_fieldAddr rfl Tryz.underlying184 rfl Tryz.sizeOf182 rfl (by first | exact Nat.zero_add _ | rfl)) ?_
            refine d_one 11 (by kernel_rfl) rfl rfl (d_store Tryz.sizeOf182 rfl rfl rfl (Nat.le_of_ble_eq_true rfl) SetL.eq) rfl ?_; clear hS
            rintro _ _ rfl
            refine ⟨(sc_own sc_end), fun hS => ?_⟩
            refine d_done (by kernel_rfl) ?_; clear hS
            refine n_block ?_
            refine n_then ?_
            refine x_region ?_
            refine s_val rfl (v_add rfl rfl (by first | exact w64 (by omega) | rfl)) ?_
            refine s_val rfl (v_move rfl) ?_
            refine x_nil ?_
            refine n_then ?_
            refine inv_intro (i + 1, a3, c3) ?_ ?_ ?_ ?_
            · omega
            · omega
            · repeat (first | exact sub_nil | refine sub_cons rfl ?_)
            · dsimp only
              rw [htk, List.flatMap_append]
              show Ent _ (pt p (cob [.slice a3 (i + 1) c3, .bool true] 184) :: osl 186 3 (.slice a3 (i + 1) c3) (((l.take i).flatMap fun x => [.int .i64 x.1, .int .i64 x.2, nilS]) ++ [[.int .i64 l[i].1, .int .i64 l[i].2, .slice none 0 0]].flatten) :: R)
              exact inferInstance
      · intro c5
        refine x_exit ?_
        refine e_then ?_
        refine e_then ?_
        refine e_block ?_
        refine n_then ?_
        refine x_seq ?_
        refine x_region ?_
        refine s_val rfl (v_move rfl) ?_
        refine s_val rfl (v_assign rfl) ?_
        refine s_val rfl (v_assign rfl) ?_
        refine x_nil ?_
        refine n_then ?_
        refine x_ret ?_
        refine x_done (.inl rfl) (.cons (r_tmp rfl) (.cons (r_tmp rfl) .nil)) ?_
        obtain rfl : i = l.length := by omega
        rw [List.take_of_length_le (Nat.le_refl _), ← rows_new l]
        refine ⟨_, ⟨p, rfl, rfl⟩, ?_⟩
        exact (Ent.cons (Ent.cons (ent_boxes (R := R) l))).trans (ent_ports (by rw [List.length_replicate, newP_len]) (newP_len l).symm)
end Go.Proofs.YtechkfopkpkigaaGreat
namespace Go.Proofs.YtechkfopkpkigaaGreat
open Go.RowKit
set_option linter.unusedSimpArgs false
set_option linter.unusedVariables false
set_option maxRecDepth 20000
theorem rdO_len {fr : List Frm} {pg : List Pl} {pa : Nat} {n : Int} : (rdO fr pg pa n).length ≤ 512 := by
  unfold rdO; split
  · rename_i h; rw [rdL_len]; have := (ownB_iff.1 h).1; omega
  · simp
def roomN (most : Int) (n : Nat) : Nat := (most - (n : Int)).toNat
def gthK (fr : List Frm) (pg : List Pl) (l : List Dsc) (most : Int) : Nat → List Nat
  | 0 => []
  | k + 1 => let d := l.getD k zD; if wrB d then gthK fr pg l most k else gthK fr pg l most k ++ (rdO fr pg d.addr d.len).take (roomN most (gthK fr pg l most k).length)
theorem gthK_by {fr : List Frm} (hF : Frs fr) (pg : List Pl) (l : List Dsc) (most : Int) : ∀ k, By (gthK fr pg l most k)
  | 0 => fun b hb => by simp [gthK] at hb
  | k + 1 => by
    rw [gthK]; split
    · exact gthK_by hF pg l most k
    · exact (gthK_by hF pg l most k).append ((rdO_by hF _ _ _).take _)
theorem gthK_len (fr : List Frm) (pg : List Pl) (l : List Dsc) (most : Int) : ∀ k, (gthK fr pg l most k).length ≤ 512 * k ∧ ((gthK fr pg l most k).length = 0 ∨ ((gthK fr pg l most k).length : Int) ≤ most)
  | 0 => ⟨by simp [gthK], .inl rfl⟩
  | k + 1 => by
    obtain ⟨h1, h2⟩ := gthK_len fr pg l most k
    have h3 := rdO_len (fr := fr) (pg := pg) (pa := (l.getD k zD).addr) (n := (l.getD k zD).len)
    rw [gthK]; split
    · exact ⟨by omega, h2⟩
    · rw [List.length_append, List.length_take, roomN]; omega
theorem byV_take (l : List Nat) (k : Nat) : byV (l.take k) = (byV l).take k := by simp [byV, List.map_take]
theorem chGather_spec (W0 : World) (R : List HP) (pv ps pm d c : Nat) (a : Option Addr) (fr : List Frm) (pg : List Pl) (h : Pgs pg) (hF : Frs fr) (l : List Dsc) (hs : SlA (OwnP W0 R) a 4 dsV l) (hl : ∀ x ∈ l, x.ok) (hn : l.length ≤ 1000) (most : Int) (hm : -9223372036854775808 ≤ most ∧ most < 9223372036854775808) :
    Spec Tryz.prog W0 186 [.pointer (some ⟨pv, 0, none⟩), .slice a l.length c, .int .i64 most] (vw pv ps pm d fr pg R)
      (fun v B => ∃ a' c', v = .slice a' (gthK fr pg l most l.length).length c' ∧ B = osl 5 1 (.slice a' (gthK fr pg l most l.length).length c') (byV (gthK fr pg l most l.length)) :: vw pv ps pm d fr pg R) := by
  refine spec_body Tryz.func186 Tryz.ntmps186 rfl rfl ?_
  refine x_seq ?_
  refine x_region ?_
  refine s_val rfl (v_assign rfl) ?_
  refine x_nil ?_
  refine n_then ?_
  refine x_seq ?_
  refine x_region ?_
  refine s_val rfl (v_assign rfl) ?_
  refine x_nil ?_
  refine n_then ?_
  refine x_seq ?_
  refine x_seq ?_
  refine x_region ?_
  refine s_val rfl (v_move rfl) ?_
  refine s_val rfl (v_len_slice Tryz.underlying43 rfl) ?_
  refine s_val rfl (v_move rfl) ?_
  refine x_nil ?_
  refine n_then ?_
  refine x_block ?_
  refine x_loop (fun X : Nat × Option Addr × Nat => X.1 ≤ l.length) (fun X => [(0, .pointer (some ⟨pv, 0, none⟩)), (2, .int .i64 most), (7, .slice X.2.1 (gthK fr pg l most X.1).length X.2.2), (13, .slice a l.length c), (14, .int .i64 l.length), (15, .int .i64 X.1)]) (fun X => osl 5 1 (.slice X.2.1 (gthK fr pg l most X.1).length X.2.2) (byV (gthK fr pg l most X.1)) :: vw pv ps pm d fr pg R) (fun X => l.length - X.1) (0, none, 0) ?_ ?_ ?_ ?_
  · simp
  · repeat (first | exact sub_nil | refine sub_cons rfl ?_)
  · exact ent_osl_nil
  · intro ⟨i, a0, c0⟩ hi
    dsimp only at hi ⊢
    obtain ⟨hg1, hg2⟩ := gthK_len fr pg l most i
    refine x_seq ?_
    refine x_region ?_
    refine s_val rfl (v_lss rfl rfl) ?_
    refine x_nil ?_
    refine n_then ?_
    refine x_seq ?_
    refine x_if rfl ?_ ?_
    · intro c3
      refine x_skip ?_
      refine n_then ?_
      refine x_seq ?_
      refine x_block ?_
      refine x_seq ?_
      have hi1 : i < l.length := by omega
      obtain ⟨g, o, rfl, hc⟩ := hs.at_ hi1
      have hd := hl _ (List.getElem_mem hi1)
      have hgd : l.getD i zD = l[i] := by simp [List.getD, hi1]
      have ha := hd.addr
      have hle := hd.len
      refine x_region ?_
      refine s_val rfl (v_idx Tryz.underlying43 Tryz.sizeOf99 rfl rfl rfl hi1 (by first | exact Nat.zero_add _ | rfl)) ?_
      refine s_val rfl (v_loadAgg Tryz.isAgg99 Tryz.sizeOf99 rfl hc.weak rfl) ?_
      refine s_do rfl (d_allocA Tryz.zeroValue99) ?_
      rintro _ _ ⟨b1, rfl, rfl⟩
      refine s_do0 (d_storeAll Tryz.sizeOf99 rfl rfl rfl rfl rfl) ?_
      rintro _ _ rfl
      refine x_nil ?_
      refine n_then ?_
      refine x_seq ?_
      refine x_seq ?_
      refine x_region ?_
      refine s_val rfl (v_loadAll Tryz.isAgg99 Tryz.sizeOf99 rfl rfl) ?_
      refine s_do rfl (d_call Tryz.call188 rfl (chWrites_spec W0 _ l[i] hd)) ?_
      rintro _ B_ ⟨rfl, hB_⟩
      obtain rfl := hB_.symm
      refine x_nil ?_
      refine n_then ?_
      refine x_if rfl ?_ ?_
      · intro c5
        have hst : gthK fr pg l most (i + 1) = gthK fr pg l most i := by rw [gthK]; simp only [hgd]; rw [if_pos c5]
        obtain ⟨a1, rfl⟩ : ∃ x, x = a0 := ⟨a0, rfl⟩
        obtain ⟨c1, rfl⟩ : ∃ x, x = c0 := ⟨c0, rfl⟩
        refine x_exit ?_
        refine e_then ?_
        refine e_block ?_
        refine n_then ?_
        refine x_region ?_
        refine s_val rfl (v_add rfl rfl (by first | exact w64 (by omega) | rfl)) ?_
        refine s_val rfl (v_move rfl) ?_
        refine x_nil ?_
        refine n_then ?_
        refine inv_intro (i + 1, a1, c1) ?_ ?_ ?_ ?_
        · omega
        · omega
        · dsimp only
          rw [hst]
          try rw [List.length_append, List.length_take, Nat.min_comm]
          repeat (first | exact sub_nil | refine sub_cons rfl ?_)
        · dsimp only
          rw [hst]
          first
            | exact inferInstance
            | (rw [List.length_append, List.length_take, Nat.min_comm, byV_append]; exact inferInstance)
      · intro c5
        have hst : gthK fr pg l most (i + 1) = gthK fr pg l most i ++ (rdO fr pg l[i].addr l[i].len).take (roomN most (gthK fr pg l most i).length) := by rw [gthK]; simp only [hgd]; rw [if_neg c5]
        have hr5 := rdO_len (fr := fr) (pg := pg) (pa := l[i].addr) (n := l[i].len)
        have hrm : roomN most (gthK fr pg l most i).length = (most - ((gthK fr pg l most i).length : Int)).toNat := rfl
        refine x_skip ?_
        refine n_then ?_
        refine x_seq ?_
        refine x_region ?_
        refine s_val rfl (v_move rfl) ?_
        refine s_val rfl (v_fieldAddr rfl Tryz.underlying99 rfl Tryz.sizeOf53 rfl (by first | exact Nat.zero_add _ | rfl)) ?_
        refine s_val rfl (v_load Tryz.isAgg53 rfl (cell_own rfl)) ?_
        refine s_val rfl (v_fieldAddr rfl Tryz.underlying99 rfl Tryz.sizeOf53 rfl (by first | exact Nat.zero_add _ | rfl)) ?_
        refine s_val rfl (v_load Tryz.isAgg53 rfl (cell_own rfl)) ?_
        refine s_val rfl (v_conv Tryz.underlying53 Tryz.underlying3 rfl (w64 (by omega))) ?_
        refine s_do rfl (d_call3 Tryz.call44 rfl (viRead_spec W0 _ pv ps pm d fr pg h hF l[i].addr ha l[i].len)) ?_
        rintro _ B_ ⟨a2, c2, rfl, hB_⟩
        obtain rfl := hB_.symm
        generalize hX : rdO fr pg l[i].addr l[i].len = X at hst hr5
        generalize hG : gthK fr pg l most i = G at hst hg1 hg2 hrm
        refine run_form (E := 5) (sz := 1) (a := a2) (c := c2) (n := X.length) (fun hf2 => ?_)
        refine run_cap (E := 5) (sz := 1) (a := a2) (c := c2) (n := X.length) (fun hcap => ?_)
        refine s_val rfl (v_move rfl) ?_
        refine s_val rfl (v_extract rfl rfl) ?_
        refine s_val rfl (v_extract rfl rfl) ?_
        refine s_val rfl (v_assign rfl) ?_
        refine s_val rfl (v_assign rfl) ?_
        refine x_nil ?_
        refine n_then ?_
        refine x_seq ?_
        refine x_region ?_
        refine s_val rfl (v_move rfl) ?_
        refine s_val rfl (v_move rfl) ?_
        refine s_val rfl (v_len_slice Tryz.underlying76 rfl) ?_
        refine s_val rfl (v_sub rfl rfl (w64 (by omega))) ?_
        refine s_val rfl (v_max rfl rfl (by rw [hrm]; split <;> omega : (if most - (G.length : Int) > 0 then most - (G.length : Int) else 0) = ((roomN most G.length : Nat) : Int))) ?_
        refine s_val rfl (v_assign rfl) ?_
        refine x_nil ?_
        refine n_then ?_
        refine x_region ?_
        refine s_val rfl (v_move rfl) ?_
        refine s_val rfl (v_move rfl) ?_
        refine s_val rfl (v_move rfl) ?_
        refine s_val rfl (v_len_slice Tryz.underlying76 rfl) ?_
        refine s_val rfl (v_move rfl) ?_
        refine s_val rfl (v_min rfl rfl (by split <;> omega : (if ((roomN most G.length : Nat) : Int) < (X.length : Int) then ((roomN most G.length : Nat) : Int) else (X.length : Int)) = ((min X.length (roomN most G.length) : Nat) : Int))) ?_
        refine s_val rfl (v_sliceH Tryz.underlying76 Tryz.sizeOf5 rfl rfl rfl (by omega)) ?_
        refine s_do rfl (d_appendS (sz := 1) (by_ := 1) (info := Tryz.t5) Tryz.underlying76 (by kernel_rfl) rfl rfl rfl rfl (by decide) rfl rfl (news := byV (X.take (roomN most G.length))) (by
  rcases hf2 with ⟨q1, q2⟩ | ⟨g2, rfl⟩
  · left
    have : X = [] := by cases X with
      | nil => rfl
      | cons _ _ => simp [byV] at q2
    subst this; simp
  · right
    refine ⟨g2, 0, rfl, fun j u hj => ?_⟩
    rw [byV_take] at hj
    have hjk : j < roomN most G.length := by
      rcases Nat.lt_or_ge j (roomN most G.length) with q | q
      · exact q
      · rw [List.getElem?_eq_none (by rw [List.length_take]; omega)] at hj; cases hj
    rw [List.getElem?_take_of_lt hjk] at hj
    exact cells_osl (E := 5) (sz := 1) (a := some ⟨g2, 0, none⟩) (n := X.length) (c := c2) j u hj) (by rw [byV_len, List.length_take]; omega) (byV_one _) (by simp only [maxLen]; omega) (by omega)) ?_
        rintro _ _ ⟨a1, c1, rfl, rfl⟩
        refine s_val rfl (v_assign rfl) ?_
        refine x_nil ?_
        refine n_block ?_
        refine n_then ?_
        refine x_region ?_
        refine s_val rfl (v_add rfl rfl (by first | exact w64 (by omega) | rfl)) ?_
        refine s_val rfl (v_move rfl) ?_
        refine x_nil ?_
        refine n_then ?_
        refine inv_intro (i + 1, a1, c1) ?_ ?_ ?_ ?_
        · omega
        · omega
        · dsimp only
          rw [hst]
          try rw [List.length_append, List.length_take, Nat.min_comm]
          repeat (first | exact sub_nil | refine sub_cons rfl ?_)
        · dsimp only
          rw [hst]
          first
            | exact inferInstance
            | (rw [List.length_append, List.length_take, Nat.min_comm, byV_append]; exact inferInstance)
    · intro c3
      refine x_exit ?_
      refine e_then ?_
      refine e_then ?_
      refine e_block ?_
      refine n_then ?_
      refine x_seq ?_
      refine x_region ?_
      refine s_val rfl (v_move rfl) ?_
      refine s_val rfl (v_assign rfl) ?_
      refine x_nil ?_
      refine n_then ?_
      refine x_ret ?_
      refine x_done (.inl rfl) (.cons (r_tmp rfl) .nil) ?_
      have e1 : i = l.length := by omega
      subst e1
      exact ⟨_, ⟨a0, c0, rfl, rfl⟩, inferInstance⟩
abbrev ScS := Nat × Nat × List Frm × Nat
def scStep (pg : List Pl) (bs : List Nat) (x : Dsc) (s : ScS) : ScS :=
  if wrB x = true ∧ ownB s.2.2.1.length pg x.addr x.len = true then
    (s.1 - min s.1 x.len, s.2.1 + min (x.len - min s.1 x.len) (bs.length - s.2.1), wrF s.2.2.1 pg (x.addr + min s.1 x.len) ((bs.drop s.2.1).take (min (x.len - min s.1 x.len) (bs.length - s.2.1))), wrE s.2.2.1 pg (x.addr + min s.1 x.len) s.2.2.2 (min (x.len - min s.1 x.len) (bs.length - s.2.1)))
  else s
def scK (fr : List Frm) (pg : List Pl) (d : Nat) (l : List Dsc) (from_ : Int) (bs : List Nat) : Nat → ScS
  | 0 => (from_.toNat, 0, fr, d)
  | i + 1 => scStep pg bs (l.getD i zD) (scK fr pg d l from_ bs i)
structure ScOk (fr : List Frm) (from_ : Int) (bs : List Nat) (s : ScS) : Prop where
  frs : Frs s.2.2.1
  len : s.2.2.1.length = fr.length
  d : s.2.2.2 < 4096
  dn : s.2.1 ≤ bs.length
  sk : s.1 ≤ from_.toNat
theorem scK_ok {fr : List Frm} {pg : List Pl} {d : Nat} {l : List Dsc} {from_ : Int} {bs : List Nat} (hF : Frs fr) (hd : d < 4096) : ∀ i, ScOk fr from_ bs (scK fr pg d l from_ bs i)
  | 0 => ⟨hF, rfl, hd, Nat.zero_le _, Nat.le_refl _⟩
  | i + 1 => by
    have h := scK_ok (pg := pg) (l := l) (from_ := from_) (bs := bs) hF hd i
    rw [scK, scStep]; split
    · have h1 := h.dn
      have h2 := h.sk
      exact ⟨(wrF_ok h.frs).1, (wrF_ok h.frs).2.trans h.len, wrE_lt h.d, by simp only; omega, by simp only; omega⟩
    · exact h
theorem chScatter_spec (W0 : World) (R : List HP) (pv ps pm d c cb : Nat) (a ab : Option Addr) (fr : List Frm) (pg : List Pl) (h : Pgs pg) (hF : Frs fr) (hd : d < 4096) (l : List Dsc) (hs : SlA (OwnP W0 R) a 4 dsV l) (hl : ∀ x ∈ l, x.ok) (hn : l.length ≤ 1000) (from_ : Int) (hf : -9223372036854775808 ≤ from_ ∧ from_ < 9223372036854775808)
    (bs : List Nat) (hb : By bs) (hsb : SlA (OwnP W0 R) ab 1 (fun x => [bV x]) bs) (hbl : bs.length < 9223372036854775808) (hcb : bs.length ≤ cb) :
    Spec Tryz.prog W0 122 [.pointer (some ⟨pv, 0, none⟩), .slice a l.length c, .int .i64 from_, .slice ab bs.length cb] (vw pv ps pm d fr pg R)
      (fun v B => v = .int .i64 ((scK fr pg d l from_ bs l.length).2.1 : Nat) ∧ B = vw pv ps pm (scK fr pg d l from_ bs l.length).2.2.2 (scK fr pg d l from_ bs l.length).2.2.1 pg R) := by
  refine spec_body Tryz.func122 Tryz.ntmps122 rfl rfl ?_
  refine x_seq ?_
  refine x_region ?_
  refine s_val rfl (v_assign rfl) ?_
  refine x_nil ?_
  refine n_then ?_
  refine x_seq ?_
  refine x_region ?_
  refine s_val rfl (v_move rfl) ?_
  refine s_val rfl (v_max rfl rfl (by split <;> omega : (if from_ > 0 then from_ else 0) = ((from_.toNat : Nat) : Int))) ?_
  refine s_val rfl (v_assign rfl) ?_
  refine s_val rfl (v_assign rfl) ?_
  refine x_nil ?_
  refine n_then ?_
  refine x_seq ?_
  refine x_seq ?_
  refine x_region ?_
  refine s_val rfl (v_move rfl) ?_
  refine s_val rfl (v_len_slice Tryz.underlying43 rfl) ?_
  refine s_val rfl (v_move rfl) ?_
  refine x_nil ?_
  refine n_then ?_
  refine x_block ?_
  refine x_loop (fun i : Nat => i ≤ l.length) (fun i => [(0, .pointer (some ⟨pv, 0, none⟩)), (3, .slice ab bs.length cb), (9, .int .i64 ((scK fr pg d l from_ bs i).1 : Nat)), (10, .int .i64 ((scK fr pg d l from_ bs i).2.1 : Nat)), (18, .slice a l.length c), (19, .int .i64 l.length), (20, .int .i64 i)]) (fun i => vw pv ps pm (scK fr pg d l from_ bs i).2.2.2 (scK fr pg d l from_ bs i).2.2.1 pg R) (fun i => l.length - i) 0 ?_ ?_ ?_ ?_
  · exact Nat.zero_le _
  · repeat (first | exact sub_nil | refine sub_cons rfl ?_)
  · simp only [scK]; exact inferInstance
  · intro i hi
    have hok := scK_ok (pg := pg) (l := l) (from_ := from_) (bs := bs) hF hd i
    have hS : scK fr pg d l from_ bs (i + 1) = scStep pg bs (l.getD i zD) (scK fr pg d l from_ bs i) := rfl
    have hend : ∀ hle : i = l.length, scK fr pg d l from_ bs l.length = scK fr pg d l from_ bs i := fun q => by rw [q]
    generalize scK fr pg d l from_ bs i = s at hok hS hend ⊢
    obtain ⟨sk, dn, fi, di⟩ := s
    obtain ⟨hFi, hli, hdi, hdn, hsk⟩ := hok
    dsimp only at hFi hli hdi hdn hsk ⊢
    refine x_seq ?_
    refine x_region ?_
    refine s_val rfl (v_lss rfl rfl) ?_
    refine x_nil ?_
    refine n_then ?_
    refine x_seq ?_
    refine x_if rfl ?_ ?_
    · intro c3
      refine x_skip ?_
      refine n_then ?_
      refine x_seq ?_
      refine x_block ?_
      refine x_seq ?_
      have hi1 : i < l.length := by omega
      obtain ⟨g, o, rfl, hc⟩ := hs.at_ hi1
      have hx := hl _ (List.getElem_mem hi1)
      have hgd : l.getD i zD = l[i] := by simp [List.getD, hi1]
      rw [hgd] at hS
      generalize l[i] = x at hc hx hS
      have ha := hx.addr
      have hle := hx.len
      refine x_region ?_
      refine s_val rfl (v_idx Tryz.underlying43 Tryz.sizeOf99 rfl rfl rfl hi1 (by first | exact Nat.zero_add _ | rfl)) ?_
      refine s_val rfl (v_loadAgg Tryz.isAgg99 Tryz.sizeOf99 rfl hc.weak rfl) ?_
      refine s_do rfl (d_allocA Tryz.zeroValue99) ?_
      rintro _ _ ⟨b1, rfl, rfl⟩
      refine s_do0 (d_storeAll Tryz.sizeOf99 rfl rfl rfl rfl rfl) ?_
      rintro _ _ rfl
      refine x_nil ?_
      refine n_then ?_
      refine x_seq ?_
      refine x_seq ?_
      refine x_region ?_
      refine s_val rfl (v_loadAll Tryz.isAgg99 Tryz.sizeOf99 rfl rfl) ?_
      refine s_do rfl (d_call Tryz.call188 rfl (chWrites_spec W0 _ x hx)) ?_
      rintro _ B_ ⟨rfl, hB_⟩
      obtain rfl := hB_.symm
      refine s_val rfl (v_not rfl) ?_
      refine s_val rfl (v_move rfl) ?_
      refine s_or rfl rfl rfl ?_ ?_
      · intro g5_4
        have hst : scK fr pg d l from_ bs (i + 1) = (sk, dn, fi, di) := by rw [hS, scStep, if_neg (fun q => g5_4 q.1)]
        refine s_no rfl rfl rfl rfl ?_
        refine s_no rfl rfl rfl rfl ?_
        refine s_no rfl rfl rfl rfl ?_
        refine s_no rfl rfl rfl rfl ?_
        refine s_no rfl rfl rfl rfl ?_
        refine s_no rfl rfl rfl rfl ?_
        refine s_no rfl rfl rfl rfl ?_
        refine s_val rfl (v_pick_t rfl rfl) ?_
        refine x_nil ?_
        refine n_then ?_
        refine x_ift rfl ?_
        refine x_exit ?_
        refine e_then ?_
        refine e_block ?_
        refine n_then ?_
        refine x_region ?_
        refine s_val rfl (v_add rfl rfl (by first | exact w64 (by omega) | rfl)) ?_
        refine s_val rfl (v_move rfl) ?_
        refine x_nil ?_
        refine n_then ?_
        refine inv_intro (i + 1) ?_ ?_ ?_ ?_
        · omega
        · omega
        · rw [hst]; repeat (first | exact sub_nil | refine sub_cons rfl ?_)
        · rw [hst]; exact inferInstance
      · intro g5_4
        refine s_val rfl (v_move rfl) ?_
        refine s_yes rfl rfl ?_
        refine s_val rfl (v_fieldAddr rfl Tryz.underlying99 rfl Tryz.sizeOf53 rfl (by first | exact Nat.zero_add _ | rfl)) ?_
        refine s_yes rfl rfl ?_
        refine s_val rfl (v_load Tryz.isAgg53 rfl (cell_own rfl)) ?_
        refine s_yes rfl rfl ?_
        refine s_val rfl (v_fieldAddr rfl Tryz.underlying99 rfl Tryz.sizeOf53 rfl (by first | exact Nat.zero_add _ | rfl)) ?_
        refine s_yes rfl rfl ?_
        refine s_val rfl (v_load Tryz.isAgg53 rfl (cell_own rfl)) ?_
        refine s_yes rfl rfl ?_
        refine s_val rfl (v_conv Tryz.underlying53 Tryz.underlying3 rfl (w64 (by omega))) ?_
        refine s_yes rfl rfl ?_
        refine s_do rfl (d_call3 Tryz.call123 rfl (viOwn_spec W0 _ pv ps pm di fi pg h x.addr ha x.len)) ?_
        rintro _ B_ ⟨rfl, hB_⟩
        obtain rfl := hB_.symm
        refine s_yes rfl rfl ?_
        refine s_val rfl (v_not rfl) ?_
        refine s_val rfl (v_pick_f rfl rfl) ?_
        refine x_nil ?_
        refine n_then ?_
        refine x_if rfl ?_ ?_
        · intro c5
          have hst : scK fr pg d l from_ bs (i + 1) = (sk, dn, fi, di) := by rw [hS, scStep, if_neg (fun q => c5 q.2)]
          refine x_exit ?_
          refine e_then ?_
          refine e_block ?_
          refine n_then ?_
          refine x_region ?_
          refine s_val rfl (v_add rfl rfl (by first | exact w64 (by omega) | rfl)) ?_
          refine s_val rfl (v_move rfl) ?_
          refine x_nil ?_
          refine n_then ?_
          refine inv_intro (i + 1) ?_ ?_ ?_ ?_
          · omega
          · omega
          · rw [hst]; repeat (first | exact sub_nil | refine sub_cons rfl ?_)
          · rw [hst]; exact inferInstance
        · intro c5
          have hw : wrB x = true := by simpa using g5_4
          have ho : ownB fi.length pg x.addr x.len = true := by simpa using c5
          have hst : scK fr pg d l from_ bs (i + 1) = (sk - min sk x.len, dn + min (x.len - min sk x.len) (bs.length - dn), wrF fi pg (x.addr + min sk x.len) ((bs.drop dn).take (min (x.len - min sk x.len) (bs.length - dn))), wrE fi pg (x.addr + min sk x.len) di (min (x.len - min sk x.len) (bs.length - dn))) := by rw [hS, scStep, if_pos ⟨hw, ho⟩]
          have h512 := (ownB_nat.1 ho).1
          obtain ⟨ah, hah⟩ : ∃ y, min sk x.len = y := ⟨_, rfl⟩
          rw [hah] at hst
          obtain ⟨kk, hkk⟩ : ∃ y, min (x.len - ah) (bs.length - dn) = y := ⟨_, rfl⟩
          rw [hkk] at hst
          refine x_skip ?_
          refine n_then ?_
          refine x_seq ?_
          refine x_region ?_
          refine s_val rfl (v_fieldAddr rfl Tryz.underlying99 rfl Tryz.sizeOf53 rfl (by first | exact Nat.zero_add _ | rfl)) ?_
          refine s_val rfl (v_load Tryz.isAgg53 rfl (cell_own rfl)) ?_
          refine s_val rfl (v_conv Tryz.underlying53 Tryz.underlying3 rfl (w64 (by omega))) ?_
          refine s_val rfl (v_assign rfl) ?_
          refine x_nil ?_
          refine n_then ?_
          refine x_seq ?_
          refine x_region ?_
          refine s_val rfl (v_move rfl) ?_
          refine s_val rfl (v_move rfl) ?_
          refine s_val rfl (v_min rfl rfl (by split <;> omega : (if (x.len : Int) < (sk : Int) then (x.len : Int) else (sk : Int)) = ((ah : Nat) : Int))) ?_
          refine s_val rfl (v_assign rfl) ?_
          refine x_nil ?_
          refine n_then ?_
          refine x_seq ?_
          refine x_region ?_
          refine s_val rfl (v_move rfl) ?_
          refine s_val rfl (v_move rfl) ?_
          refine s_val rfl (v_sub rfl rfl (by rw [w64 (by omega)]; omega : IntKind.wrap .i64 ((sk : Int) - (ah : Int)) = ((sk - ah : Nat) : Int))) ?_
          refine s_val rfl (v_assign rfl) ?_
          refine x_nil ?_
          refine n_then ?_
          refine x_seq ?_
          refine x_region ?_
          refine s_val rfl (v_move rfl) ?_
          refine s_val rfl (v_move rfl) ?_
          refine s_val rfl (v_sub rfl rfl (by rw [w64 (by omega)]; omega : IntKind.wrap .i64 ((x.len : Int) - (ah : Int)) = ((x.len - ah : Nat) : Int))) ?_
          refine s_val rfl (v_move rfl) ?_
          refine s_val rfl (v_len_slice Tryz.underlying76 rfl) ?_
          refine s_val rfl (v_move rfl) ?_
          refine s_val rfl (v_sub rfl rfl (by rw [w64 (by omega)]; omega : IntKind.wrap .i64 ((bs.length : Int) - (dn : Int)) = ((bs.length - dn : Nat) : Int))) ?_
          refine s_val rfl (v_min rfl rfl (by split <;> omega : (if ((bs.length - dn : Nat) : Int) < ((x.len - ah : Nat) : Int) then ((bs.length - dn : Nat) : Int) else ((x.len - ah : Nat) : Int)) = ((kk : Nat) : Int))) ?_
          refine s_val rfl (v_assign rfl) ?_
          refine x_nil ?_
          refine n_then ?_
          refine x_seq ?_
          refine x_draw [(b1, 0, _)] 13 mixed rfl (sc_own sc_end) (fun hS => ?_)
          refine d_take 0 rfl rfl (by kernel_rfl) (by kernel_rfl) (by kernel_rfl) rfl hS (v_move rfl) ?_
          refine d_take 1 rfl rfl (by kernel_rfl) (by kernel_rfl) (by kernel_rfl) rfl hS (v_fieldAddr rfl Tryz.underlying99 rfl Tryz.sizeOf53 rfl (by first | exact Nat.zero_add _ | rfl)) ?_
          refine d_take 2 rfl rfl (by kernel_rfl) (by kernel_rfl) (by kernel_rfl) rfl hS (v_load Tryz.isAgg53 rfl (cell_sc0 (k := 0) rfl rfl)) ?_
          refine d_take 3 rfl rfl (by kernel_rfl) (by kernel_rfl) (by kernel_rfl) rfl hS (v_move rfl) ?_
          refine d_take 4 rfl rfl (by kernel_rfl) (by kernel_rfl) (by kernel_rfl) rfl hS (v_conv Tryz.underlying3 Tryz.underlying53 rfl (w32u (by omega))) ?_
          refine d_take 5 rfl rfl (by kernel_rfl) (by kernel_rfl) (by kernel_rfl) rfl hS (v_add rfl rfl (by rw [w32u (by omega)]; omega : IntKind.wrap .u32 ((x.addr : Int) + (ah : Int)) = ((x.addr + ah : Nat) : Int))) ?_
          refine d_take 6 rfl rfl (by kernel_rfl) (by kernel_rfl) (by kernel_rfl) rfl hS (v_move rfl) ?_
          refine d_take 7 rfl rfl (by kernel_rfl) (by kernel_rfl) (by kernel_rfl) rfl hS (v_move rfl) ?_
          refine d_take 8 rfl rfl (by kernel_rfl) (by kernel_rfl) (by kernel_rfl) rfl hS (v_move rfl) ?_
          refine d_take 9 rfl rfl (by kernel_rfl) (by kernel_rfl) (by kernel_rfl) rfl hS (v_move rfl) ?_
          refine d_take 10 rfl rfl (by kernel_rfl) (by kernel_rfl) (by kernel_rfl) rfl hS (v_add rfl rfl (by rw [w64 (by omega)]; omega : IntKind.wrap .i64 ((dn : Int) + (kk : Int)) = ((dn + kk : Nat) : Int))) ?_
          refine d_take 11 rfl rfl (by kernel_rfl) (by kernel_rfl) (by kernel_rfl) rfl hS (v_sliceLHg Tryz.underlying76 Tryz.sizeOf5 rfl rfl rfl rfl rfl (by omega) (by omega)) ?_
          refine d_one 12 (by kernel_rfl) rfl rfl (d_call3 Tryz.call92 rfl (viWriteN_spec W0 _ pv ps pm di _ (dn + kk - dn) _ fi pg h hFi hdi (x.addr + ah) (by omega) ((bs.drop dn).take kk) (by rw [List.length_take, List.length_drop]; omega) ((hb.drop _).take _) (SlA.sub hsb.weak (by omega) hcb) (by omega))) rfl ?_; clear hS
          rintro _ B_ ⟨rfl, hB_⟩
          obtain rfl := hB_.symm
          rw [show dn + kk - dn = kk by omega]
          refine ⟨(sc_own sc_end), fun hS => ?_⟩
          refine d_done (by kernel_rfl) ?_; clear hS
          refine n_then ?_
          refine x_region ?_
          refine s_val rfl (v_move rfl) ?_
          refine s_val rfl (v_move rfl) ?_
          refine s_val rfl (v_add rfl rfl (by rw [w64 (by omega)]; omega : IntKind.wrap .i64 ((dn : Int) + (kk : Int)) = ((dn + kk : Nat) : Int))) ?_
          refine s_val rfl (v_assign rfl) ?_
          refine x_nil ?_
          refine n_block ?_
          refine n_then ?_
          refine x_region ?_
          refine s_val rfl (v_add rfl rfl (by first | exact w64 (by omega) | rfl)) ?_
          refine s_val rfl (v_move rfl) ?_
          refine x_nil ?_
          refine n_then ?_
          refine inv_intro (i + 1) ?_ ?_ ?_ ?_
          · omega
          · omega
          · rw [hst]; repeat (first | exact sub_nil | refine sub_cons rfl ?_)
          · rw [hst]; exact inferInstance
    · intro c3
      refine x_exit ?_
      refine e_then ?_
      refine e_then ?_
      refine e_block ?_
      refine n_then ?_
      refine x_seq ?_
      refine x_region ?_
      refine s_val rfl (v_move rfl) ?_
      refine s_val rfl (v_assign rfl) ?_
      refine x_nil ?_
      refine n_then ?_
      refine x_ret ?_
      refine x_done (.inl rfl) (.cons (r_tmp rfl) .nil) ?_
      have e1 := hend (by omega)
      rw [e1]
      exact ⟨_, ⟨rfl, rfl⟩, inferInstance⟩
end Go.Proofs.YtechkfopkpkigaaGreat
namespace Go.Proofs.YtechkfopkpkigaaGreat
open Go.RowKit
set_option linter.unusedSimpArgs false
set_option linter.unusedVariables false
set_option maxRecDepth 20000
end Go.Proofs.YtechkfopkpkigaaGreat
namespace Go.Proofs.YtechkfopkpkigaaGreat
open Go.RowKit
set_option linter.unusedSimpArgs false
set_option linter.unusedVariables false
set_option maxRecDepth 20000
theorem rdSized_spec (W0 : World) (R : List HP) (n : Int) : Spec Tryz.prog W0 176 [.int .i64 n] R (fun v B => v = .bool (szd n) ∧ B = R) := by
  refine spec_body Tryz.func176 Tryz.ntmps176 rfl rfl ?_
  refine x_seq ?_
  refine x_region ?_
  refine s_val rfl (v_assign rfl) ?_
  refine x_nil ?_
  refine n_then ?_
  refine x_seq ?_
  refine x_region ?_
  refine s_val rfl (v_move rfl) ?_
  refine s_val rfl (v_eql rfl rfl) ?_
  refine s_val rfl (v_move rfl) ?_
  refine s_or rfl rfl rfl ?_ ?_
  · intro g1_3
    refine s_no rfl rfl rfl rfl ?_
    refine s_val rfl (v_pick_t rfl rfl) ?_
    refine s_val rfl (v_move rfl) ?_
    refine s_no rfl rfl rfl rfl ?_
    refine s_no rfl rfl rfl rfl ?_
    refine s_val rfl (v_pick_t rfl rfl) ?_
    refine s_val rfl (v_assign rfl) ?_
    refine x_nil ?_
    refine n_then ?_
    refine x_ret ?_
    refine x_done (.inl rfl) (.cons (r_tmp rfl) .nil) ?_
    refine ⟨_, ⟨?_, rfl⟩, inferInstance⟩
    refine congrArg Value.bool ?_
    rw [Bool.eq_iff_iff]; simp only [szd, decide_eq_true_iff, beq_iff_eq, Bool.true_eq_false, iff_true, true_iff]; omega
  · intro g1_3
    refine s_val rfl (v_move rfl) ?_
    refine s_yes rfl rfl ?_
    refine s_val rfl (v_eql rfl rfl) ?_
    refine s_val rfl (v_pick_f rfl rfl) ?_
    refine s_val rfl (v_move rfl) ?_
    refine s_or rfl rfl rfl ?_ ?_
    · intro g1_7
      refine s_no rfl rfl rfl rfl ?_
      refine s_val rfl (v_pick_t rfl rfl) ?_
      refine s_val rfl (v_assign rfl) ?_
      refine x_nil ?_
      refine n_then ?_
      refine x_ret ?_
      refine x_done (.inl rfl) (.cons (r_tmp rfl) .nil) ?_
      refine ⟨_, ⟨?_, rfl⟩, inferInstance⟩
      refine congrArg Value.bool ?_
      rw [Bool.eq_iff_iff]; simp only [szd, decide_eq_true_iff, beq_iff_eq, Bool.true_eq_false, iff_true, true_iff]; omega
    · intro g1_7
      refine s_val rfl (v_move rfl) ?_
      refine s_yes rfl rfl ?_
      refine s_val rfl (v_eql rfl rfl) ?_
      refine s_val rfl (v_pick_f rfl rfl) ?_
      refine s_val rfl (v_assign rfl) ?_
      refine x_nil ?_
      refine n_then ?_
      refine x_ret ?_
      refine x_done (.inl rfl) (.cons (r_tmp rfl) .nil) ?_
      refine ⟨_, ⟨?_, rfl⟩, inferInstance⟩
      refine congrArg Value.bool ?_
      rw [Bool.eq_iff_iff]; simp only [szd, decide_eq_true_iff, beq_iff_eq, Bool.true_eq_false, iff_true, true_iff]; omega
theorem rgtB_iff {r : Rg3} : rgtB r = true ↔ (r.desc % 4 = 0 ∧ r.avail % 4 = 0 ∧ r.used % 4 = 0) ∧ szd r.n = true := by
  rw [rgtB, Bool.and_eq_true]; exact ⟨fun h => ⟨of_decide_eq_true h.1, h.2⟩, fun h => ⟨decide_eq_true h.1, h.2⟩⟩
theorem rdRight_spec (W0 : World) (R : List HP) (r : Rg3) : Spec Tryz.prog W0 97 [.agg (rgV r).toArray] R (fun v B => v = .bool (rgtB r) ∧ B = R) := by
  refine spec_body Tryz.func97 Tryz.ntmps97 rfl rfl ?_
  refine x_seq ?_
  refine x_region ?_
  refine s_do rfl (d_boxA rfl) ?_
  rintro _ _ ⟨b1, rfl, rfl⟩
  refine s_val rfl (v_assign rfl) ?_
  refine x_nil ?_
  refine n_then ?_
  refine x_seq ?_
  refine x_region ?_
  refine s_val rfl (v_fieldAddr rfl Tryz.underlying55 rfl Tryz.sizeOf3 rfl (by first | exact Nat.zero_add _ | rfl)) ?_
  refine s_val rfl (v_load Tryz.isAgg3 rfl (cell_own rfl)) ?_
  refine s_do rfl (d_call Tryz.call176 rfl (rdSized_spec W0 _ r.n)) ?_
  rintro _ B_ ⟨rfl, hB_⟩
  obtain rfl := hB_.symm
  refine s_val rfl (v_move rfl) ?_
  refine s_and rfl rfl rfl ?_ ?_
  · intro g1_4
    refine s_val rfl (v_fieldAddr rfl Tryz.underlying55 rfl Tryz.sizeOf53 rfl (by first | exact Nat.zero_add _ | rfl)) ?_
    refine s_yes rfl rfl ?_
    refine s_val rfl (v_load Tryz.isAgg53 rfl (cell_own rfl)) ?_
    refine s_yes rfl rfl ?_
    refine s_val rfl (v_rem rfl rfl (by decide) (tmodN r.desc 4)) ?_
    refine s_yes rfl rfl ?_
    refine s_val rfl (v_eql rfl rfl) ?_
    refine s_val rfl (v_pick_t rfl rfl) ?_
    refine s_val rfl (v_move rfl) ?_
    refine s_and rfl rfl rfl ?_ ?_
    · intro g1_10
      refine s_val rfl (v_fieldAddr rfl Tryz.underlying55 rfl Tryz.sizeOf53 rfl (by first | exact Nat.zero_add _ | rfl)) ?_
      refine s_yes rfl rfl ?_
      refine s_val rfl (v_load Tryz.isAgg53 rfl (cell_own rfl)) ?_
      refine s_yes rfl rfl ?_
      refine s_val rfl (v_rem rfl rfl (by decide) (tmodN r.avail 4)) ?_
      refine s_yes rfl rfl ?_
      refine s_val rfl (v_eql rfl rfl) ?_
      refine s_val rfl (v_pick_t rfl rfl) ?_
      refine s_val rfl (v_move rfl) ?_
      refine s_and rfl rfl rfl ?_ ?_
      · intro g1_16
        refine s_val rfl (v_fieldAddr rfl Tryz.underlying55 rfl Tryz.sizeOf53 rfl (by first | exact Nat.zero_add _ | rfl)) ?_
        refine s_yes rfl rfl ?_
        refine s_val rfl (v_load Tryz.isAgg53 rfl (cell_own rfl)) ?_
        refine s_yes rfl rfl ?_
        refine s_val rfl (v_rem rfl rfl (by decide) (tmodN r.used 4)) ?_
        refine s_yes rfl rfl ?_
        refine s_val rfl (v_eql rfl rfl) ?_
        refine s_val rfl (v_pick_t rfl rfl) ?_
        refine s_val rfl (v_assign rfl) ?_
        refine x_nil ?_
        refine n_then ?_
        refine x_ret ?_
        refine x_done (.inl rfl) (.cons (r_tmp rfl) .nil) ?_
        refine ⟨_, ⟨?_, rfl⟩, inferInstance⟩
        refine congrArg Value.bool ?_
        rw [Bool.eq_iff_iff, rgtB_iff]
        first
          | (rw [beq_iff_eq]; constructor
             · intro q; exact ⟨by omega, g1_4⟩
             · rintro ⟨q, _⟩; omega)
          | (constructor
             · intro q; cases q
             · rintro ⟨q1, q2⟩; first | exact absurd q2 g1_4 | (exfalso; omega))
      · intro g1_16
        refine s_no rfl rfl rfl rfl ?_
        refine s_no rfl rfl rfl rfl ?_
        refine s_no rfl rfl rfl rfl ?_
        refine s_val rfl (v_pick_f rfl rfl) ?_
        refine s_val rfl (v_assign rfl) ?_
        refine x_nil ?_
        refine n_then ?_
        refine x_ret ?_
        refine x_done (.inl rfl) (.cons (r_tmp rfl) .nil) ?_
        refine ⟨_, ⟨?_, rfl⟩, inferInstance⟩
        refine congrArg Value.bool ?_
        rw [Bool.eq_iff_iff, rgtB_iff]
        first
          | (rw [beq_iff_eq]; constructor
             · intro q; exact ⟨by omega, g1_4⟩
             · rintro ⟨q, _⟩; omega)
          | (constructor
             · intro q; cases q
             · rintro ⟨q1, q2⟩; first | exact absurd q2 g1_4 | (exfalso; omega))
    · intro g1_10
      refine s_no rfl rfl rfl rfl ?_
      refine s_no rfl rfl rfl rfl ?_
      refine s_no rfl rfl rfl rfl ?_
      refine s_val rfl (v_pick_f rfl rfl) ?_
      refine s_val rfl (v_move rfl) ?_
      refine s_no rfl rfl rfl rfl ?_
      refine s_no rfl rfl rfl rfl ?_
      refine s_no rfl rfl rfl rfl ?_
      refine s_no rfl rfl rfl rfl ?_
      refine s_val rfl (v_pick_f rfl rfl) ?_
      refine s_val rfl (v_assign rfl) ?_
      refine x_nil ?_
      refine n_then ?_
      refine x_ret ?_
      refine x_done (.inl rfl) (.cons (r_tmp rfl) .nil) ?_
      refine ⟨_, ⟨?_, rfl⟩, inferInstance⟩
      refine congrArg Value.bool ?_
      rw [Bool.eq_iff_iff, rgtB_iff]
      first
        | (rw [beq_iff_eq]; constructor
           · intro q; exact ⟨by omega, g1_4⟩
           · rintro ⟨q, _⟩; omega)
        | (constructor
           · intro q; cases q
           · rintro ⟨q1, q2⟩; first | exact absurd q2 g1_4 | (exfalso; omega))
  · intro g1_4
    refine s_no rfl rfl rfl rfl ?_
    refine s_no rfl rfl rfl rfl ?_
    refine s_no rfl rfl rfl rfl ?_
    refine s_val rfl (v_pick_f rfl rfl) ?_
    refine s_val rfl (v_move rfl) ?_
    refine s_no rfl rfl rfl rfl ?_
    refine s_no rfl rfl rfl rfl ?_
    refine s_no rfl rfl rfl rfl ?_
    refine s_no rfl rfl rfl rfl ?_
    refine s_val rfl (v_pick_f rfl rfl) ?_
    refine s_val rfl (v_move rfl) ?_
    refine s_no rfl rfl rfl rfl ?_
    refine s_no rfl rfl rfl rfl ?_
    refine s_no rfl rfl rfl rfl ?_
    refine s_no rfl rfl rfl rfl ?_
    refine s_val rfl (v_pick_f rfl rfl) ?_
    refine s_val rfl (v_assign rfl) ?_
    refine x_nil ?_
    refine n_then ?_
    refine x_ret ?_
    refine x_done (.inl rfl) (.cons (r_tmp rfl) .nil) ?_
    refine ⟨_, ⟨?_, rfl⟩, inferInstance⟩
    refine congrArg Value.bool ?_
    rw [Bool.eq_iff_iff, rgtB_iff]
    first
      | (rw [beq_iff_eq]; constructor
         · intro q; exact ⟨by omega, g1_4⟩
         · rintro ⟨q, _⟩; omega)
      | (constructor
         · intro q; cases q
         · rintro ⟨q1, q2⟩; first | exact absurd q2 g1_4 | (exfalso; omega))
end Go.Proofs.YtechkfopkpkigaaGreat
namespace Go.Proofs.YtechkfopkpkigaaGreat
open Go.RowKit
set_option linter.unusedSimpArgs false
set_option linter.unusedVariables false
set_option maxRecDepth 20000
end Go.Proofs.YtechkfopkpkigaaGreat
namespace Go.Proofs.YtechkfopkpkigaaGreat
open Go.RowKit
set_option linter.unusedSimpArgs false
set_option linter.unusedVariables false
set_option maxRecDepth 20000
theorem base_cells {W : World} {a : Option Addr} {bs : List Nat} (h : SlB W a 1 (fun x => [bV x]) bs) : ∃ g o, (∀ A, Cells (OwnP W A) g o (byV bs)) ∧ ∀ S, Cells S g o (byV bs) → SlA S a 1 (fun x => [bV x]) bs := by
  by_cases h0 : bs = []
  · subst h0; exact ⟨0, 0, fun A i v hi => by simp [byV] at hi, fun S _ => sla_nil⟩
  · obtain ⟨b, off, hb, h1⟩ := (sla_base (A := []) h).all h0 (fun _ => rfl)
    subst hb
    have hcell : ∀ A, Cells (OwnP W A) b off (byV bs) := fun A => by
      obtain ⟨b', off', hb', h1'⟩ := (sla_base (A := A) h).all h0 (fun _ => rfl)
      cases hb'; rw [byV_fm] at h1'; exact h1'
    refine ⟨b, off, hcell, fun S hS i x hi => ⟨b, off, rfl, fun j v hj => ?_⟩⟩
    have hilt : i < bs.length := by
      rcases Nat.lt_or_ge i bs.length with q | q
      · exact q
      · rw [List.getElem?_eq_none q] at hi; cases hi
    have hx : bs[i] = x := by rw [List.getElem?_eq_getElem hilt] at hi; exact Option.some.inj hi
    have hj0 : j = 0 := by
      rcases Nat.eq_zero_or_pos j with q | q
      · exact q
      · rw [List.getElem?_eq_none (by simp; omega)] at hj; cases hj
    subst hj0
    have := hS i (bV bs[i]) (byV_get bs i hilt)
    simp only [List.getElem?_cons_zero, Option.some.injEq] at hj
    rw [Nat.mul_one, Nat.add_zero, ← hj, ← hx]; exact this
end Go.Proofs.YtechkfopkpkigaaGreat
namespace Go.Proofs.YtechkfopkpkigaaGreat
open Go.RowKit
set_option linter.unusedSimpArgs false
set_option linter.unusedVariables false
set_option maxRecDepth 20000
section
variable {P : Program} {S : World → Prop} {W0 : World} {N : FSz} {e : Env} {A R : List HP} {t t' : TypeId} {x : Operand} {v : Value} {b : Nat} {vs : List Value}
theorem cell_obj {arr : Array Value} {ty : TypeId} {mk : Nat × Nat} {off : Nat} [h : Tk pt b A (.cells arr ty mk) R] (hv : arr[off]? = some v) : Cell (OwnP W0 A) b off v := fun w (hO : Own W0 w A) => by
  have := (hO.tk (r := pt) (b := b)).has.2
  simp [World.cell?, this, hv]
theorem cells_obj {arr : Array Value} {ty : TypeId} {mk : Nat × Nat} [h : Tk pt b A (.cells arr ty mk) R] (hv : ∀ (i : Nat) (v : Value), vs[i]? = some v → arr[i]? = some v) : Cells (OwnP W0 A) b 0 vs := fun i v hi => by
  rw [Nat.zero_add]; exact cell_obj (hv i v hi)
def bL (s : ByteArray) : List Nat := s.data.toList.map UInt8.toNat
theorem bL_len (s : ByteArray) : (bL s).length = s.size := by rw [bL, List.length_map, Array.length_toList]; rfl
theorem bL_by (s : ByteArray) : By (bL s) := fun x hx => by
  obtain ⟨u, _, rfl⟩ := List.mem_map.1 hx
  exact u.toNat_lt
theorem strB_bL (s : ByteArray) : strB (bL s) = s := by
  have h := strB_list (bL s)
  have : (bL s).map UInt8.ofNat = s.data.toList := by
    rw [bL, List.map_map]
    conv => rhs; rw [← List.map_id s.data.toList]
    exact List.map_congr_left fun u _ => by simp
  rw [this] at h
  obtain ⟨d⟩ := s
  have e := Array.ext' h
  cases hq : strB (bL ⟨d⟩) with
  | mk d' => rw [hq] at e; simp only at e; rw [e]
theorem bL_strB {l : List Nat} (h : By l) : bL (strB l) = l := by
  rw [bL, strB_list, List.map_map]
  conv => rhs; rw [← List.map_id l]
  exact List.map_congr_left fun u hu => by
    have := h u hu
    simp; omega
theorem strB_size (l : List Nat) : (strB l).size = l.length := by
  rw [← bL_len, bL, strB_list, List.length_map, List.length_map]
theorem d_strb {E : TypeId} {s : ByteArray} (hs : P.underlying t = some .string) (hd : P.underlying t' = some (.slice E)) (he : P.underlying E = some (.int .u8)) (hx : ev e x = some (.string s)) :
    Does P W0 N e A (.convert t t' x) (fun v B => ∃ b c, ∃ arr : Array Value, ∃ mk, v = .slice (some ⟨b, 0, none⟩) s.size c ∧ s.size ≤ c ∧ (∀ (i : Nat) (v : Value), (byV (bL s))[i]? = some v → arr[i]? = some v) ∧ B = pt b (.cells arr E mk) :: A) := does_run fun a w _ _ _ _ _ hF hO => by
  have hr := run_bytes_of_string (P := P) w t t' E s hs hd he
  obtain ⟨ob, hob⟩ : ∃ o, Obj.cells (bytesRow s (grownCap w s.size 0 E)) E ((bytesRow s (grownCap w s.size 0 E)).size, (bytesRow s (grownCap w s.size 0 E)).size + 1) = o := ⟨_, rfl⟩
  refine ⟨_, w.drew.alloc ob, pt w.heap.size ob :: A, .inl (by rw [← hob]; simp only [execOp, hF.eval hx, Sem.run_bind, hr, Result.andThen_ok, Sem.run_pure]), ⟨w.heap.size, _, _, _, rfl, grownCap_ge w s.size 0 E, fun i v hv => ?_, by rw [← hob]⟩, ?_⟩
  · have hi : i < s.data.size := by
      rcases Nat.lt_or_ge i s.data.size with q | q
      · exact q
      · rw [List.getElem?_eq_none (by rw [byV_len, bL_len]; exact q)] at hv; cases hv
    rw [byV, bL, List.map_map, List.getElem?_map, Array.getElem?_toList, Array.getElem?_eq_getElem hi] at hv
    simp only [Option.map_some, Option.some.injEq] at hv
    rw [bytesRow, Array.getElem?_append_left (by simpa using hi), Array.getElem?_map, Array.getElem?_eq_getElem hi, ← hv]
    rfl
  · exact (Own.drew hO (w.drawn + 1)).new _
end
theorem octGet_any (W0 : World) (R : List HP) (a : Option Addr) (c : Nat) (l : List Nat) (at_ w : Int) (hs : SlA (OwnP W0 R) a 1 (fun x => [bV x]) l) (hb : By l) (hn : l.length ≤ c) (h63 : c < 9223372036854775808) :
    Spec Tryz.prog W0 187 [.slice a l.length c, .int .i64 at_, .int .i64 w] R (fun v B => v = .tuple #[.int .u32 (getN l at_ w : Nat), .int .i64 (getE l at_ w)] ∧ B = R) := by
  by_cases h0 : l = []
  · subst h0
    have hi : inB 0 at_ w = false := by
      rw [← Bool.not_eq_true, inB_iff]; omega
    have hi' : inB ([] : List Nat).length at_ w = false := hi
    rw [getN, getE, hi']
    refine spec_body Tryz.func187 Tryz.ntmps187 rfl rfl ?_
    refine x_seq ?_
    refine x_region ?_
    refine s_val rfl (v_assign rfl) ?_
    refine s_val rfl (v_assign rfl) ?_
    refine x_nil ?_
    refine n_then ?_
    refine x_seq ?_
    refine x_region ?_
    refine s_val rfl (v_move rfl) ?_
    refine s_val rfl (v_move rfl) ?_
    refine s_val rfl (v_move rfl) ?_
    refine s_do rfl (d_call Tryz.call232 rfl (windowN_spec W0 _ a 0 c at_ w hi (by omega))) ?_
    rintro _ B_ ⟨rfl, hB_⟩
    obtain rfl := hB_.symm
    refine s_val rfl (v_move rfl) ?_
    refine s_val rfl (v_extract rfl rfl) ?_
    refine s_val rfl (v_extract rfl rfl) ?_
    refine s_val rfl (v_assign rfl) ?_
    refine s_val rfl (v_assign rfl) ?_
    refine x_nil ?_
    refine n_then ?_
    refine x_seq ?_
    refine x_seq ?_
    refine x_region ?_
    refine s_val rfl (v_move rfl) ?_
    refine s_val rfl (v_not rfl) ?_
    refine x_nil ?_
    refine n_then ?_
    refine x_if rfl ?_ ?_
    · intro c2
      refine x_seq ?_
      refine x_region ?_
      refine s_val rfl (v_assign rfl) ?_
      refine s_val rfl (v_assign rfl) ?_
      refine x_nil ?_
      refine n_then ?_
      refine x_ret ?_
      refine r_then ?_
      refine x_done (.inl rfl) (.cons (r_tmp rfl) (.cons (r_tmp rfl) .nil)) ?_
      exact ⟨_, ⟨rfl, rfl⟩, inferInstance⟩
    · intro c2
      exact absurd c2 (by simp)
  · obtain ⟨g, o, rfl, hc⟩ := hs.all h0 (fun _ => rfl)
    exact octGet_spec W0 R g o c l at_ w (by rw [← byV_fm]; exact hc) hb hn h63
theorem sla_byV {S : World → Prop} {b off : Nat} {bs : List Nat} (h : Cells S b off (byV bs)) : SlA S (some ⟨b, off, none⟩) 1 (fun x => [bV x]) bs := fun i x hi => ⟨b, off, rfl, fun j v hj => by
  have hj0 : j = 0 := by
    rcases Nat.eq_zero_or_pos j with q | q
    · exact q
    · rw [List.getElem?_eq_none (by simp; omega)] at hj; cases hj
  subst hj0
  have hx : (byV bs)[i]? = some v := by
    rw [byV, List.getElem?_map, hi]
    simpa [byV] using hj
  rw [Nat.mul_one, Nat.add_zero]
  exact h i v hx⟩
theorem sla_tail {S : World → Prop} {a : Option Addr} {bs : List Nat} {c i : Nat} (h : SlA S a 1 (fun x => [bV x]) bs) (hc : bs.length ≤ c) (hi : i ≤ bs.length) : SlA S (sliA a c i 1) 1 (fun x => [bV x]) (bs.drop i) := by
  have := h.sub (c := c) (i := i) (k := bs.length - i) (by omega) hc
  rwa [List.take_of_length_le (by rw [List.length_drop]; omega)] at this
theorem v_fieldA {P : Program} {S : World → Prop} {N : FSz} {e : Env} {x : Operand} {l l' : List Value} {T : TypeId} {fs : Array Field} {nm : String} {i ft fo n : Nat} {em : Bool} {tg pk : String} {bo : Nat} (hx : ev e x = some (.agg l.toArray)) (hu : P.underlying T = some (.struct fs)) (hf : fs.toList[i]? = some ⟨nm, ft, fo, em, tg, pk, bo⟩)
    (ha : ∀ w, (isAgg ft).run P w = .ok true w) (hs : ∀ w, (sizeOf ft).run P w = .ok n w) (hl : (l.drop fo).take n = l') : Val P S N e (.field T x i) (.agg l'.toArray) := fun a w _ _ _ _ _ hF _ => by
  have hf' : fs[i]? = some ⟨nm, ft, fo, em, tg, pk, bo⟩ := by simpa using hf
  simp only [execOp, Instr.field, hF.eval hx, Sem.run_bind, run_und hu, hf', Result.andThen_ok, asAgg, Sem.run_pure]
  rw [part_agg ha hs hl]; rfl
def pkG (fr : List Frm) (pg : List Pl) (l : List Dsc) : List Nat := gthK fr pg l 36 l.length
def pkB (fr : List Frm) (pg : List Pl) (l : List Dsc) : Bool := decide (4 ≤ lenW l false ∧ lenW l false ≤ 36 ∧ 4 ≤ (pkG fr pg l).length)
def pkT (fr : List Frm) (pg : List Pl) (l : List Dsc) : Nat := if pkB fr pg l then leN ((pkG fr pg l).take 4) else 0
def pkS (fr : List Frm) (pg : List Pl) (l : List Dsc) : ByteArray := if pkB fr pg l then strB ((pkG fr pg l).drop 4) else ByteArray.empty
theorem pkS_size (fr : List Frm) (pg : List Pl) (l : List Dsc) : (pkS fr pg l).size ≤ 32 := by
  unfold pkS; split
  · rw [strB_size, List.length_drop]
    have := (gthK_len fr pg l 36 l.length).2
    unfold pkG; omega
  · exact Nat.zero_le _
theorem pkT_lt {fr : List Frm} (hF : Frs fr) (pg : List Pl) (l : List Dsc) : pkT fr pg l < 4294967296 := by
  unfold pkT; split
  · have := leN_lt ((gthK_by hF pg l 36 l.length).take 4)
    rename_i h
    have hk : 4 ≤ (pkG fr pg l).length := (of_decide_eq_true h).2.2
    unfold pkG at hk ⊢
    rw [List.length_take, Nat.min_eq_left hk] at this
    exact this
  · omega
theorem packet_spec (W0 : World) (R : List HP) (pv ps pm d c : Nat) (a : Option Addr) (fr : List Frm) (pg : List Pl) (h : Pgs pg) (hF : Frs fr) (l : List Dsc) (hl : ∀ x ∈ l, x.ok) (hn : l.length ≤ 1000) :
    Spec Tryz.prog W0 118 [.pointer (some ⟨pv, 0, none⟩), .slice a l.length c] (osl 99 4 (.slice a l.length c) (l.flatMap dsV) :: vwW pv ps pm d fr pg R)
      (fun v B => v = .tuple #[.int .i64 (pkT fr pg l : Nat), sV (pkS fr pg l), .bool (pkB fr pg l)] ∧ B = osl 99 4 (.slice a l.length c) (l.flatMap dsV) :: vwW pv ps pm d fr pg R) := by
  obtain ⟨G, hG⟩ : ∃ G, pkG fr pg l = G := ⟨_, rfl⟩
  have hGb : By G := by rw [← hG]; exact gthK_by hF pg l 36 l.length
  have hGl : G.length ≤ 36 := by
    have := (gthK_len fr pg l 36 l.length).2
    rw [← hG, pkG]; omega
  have hX : pkB fr pg l = decide (4 ≤ lenW l false ∧ lenW l false ≤ 36 ∧ 4 ≤ G.length) := by rw [pkB, hG]
  have hno : ¬ (4 ≤ lenW l false ∧ lenW l false ≤ 36 ∧ 4 ≤ G.length) → pkT fr pg l = 0 ∧ pkS fr pg l = ByteArray.empty ∧ pkB fr pg l = false := fun q => by
    have hb : pkB fr pg l = false := by rw [hX, decide_eq_false q]
    rw [pkT, pkS, hb]; exact ⟨rfl, rfl, rfl⟩
  refine spec_body Tryz.func118 Tryz.ntmps118 rfl rfl ?_
  refine x_seq ?_
  refine x_region ?_
  refine s_val rfl (v_assign rfl) ?_
  refine s_val rfl (v_assign rfl) ?_
  refine s_val rfl (v_assign rfl) ?_
  refine x_nil ?_
  refine n_then ?_
  refine x_seq ?_
  refine x_seq ?_
  refine x_region ?_
  refine s_val rfl (v_move rfl) ?_
  refine s_do rfl (d_call1 Tryz.call185 rfl (chLen_spec W0 _ a c l false hl hn)) ?_
  rintro _ B_ ⟨rfl, hB_⟩
  obtain rfl := hB_.symm
  refine s_val rfl (v_assign rfl) ?_
  refine x_nil ?_
  refine n_then ?_
  refine x_seq ?_
  refine x_region ?_
  refine s_val rfl (v_move rfl) ?_
  refine s_val rfl (v_lss rfl rfl) ?_
  refine s_val rfl (v_move rfl) ?_
  refine s_or rfl rfl rfl ?_ ?_
  · intro g2_3
    refine s_no rfl rfl rfl rfl ?_
    refine s_val rfl (v_pick_t rfl rfl) ?_
    refine x_nil ?_
    refine n_then ?_
    refine x_ift rfl ?_
    refine x_seq ?_
    refine x_region ?_
    refine s_val rfl (v_assign rfl) ?_
    refine s_val rfl (v_assign rfl) ?_
    refine s_val rfl (v_assign rfl) ?_
    refine x_nil ?_
    refine n_then ?_
    refine x_ret ?_
    refine r_then ?_
    refine x_done (.inl rfl) (.cons (r_tmp rfl) (.cons (r_tmp rfl) (.cons (r_tmp rfl) .nil))) ?_
    obtain ⟨e1, e2, e3⟩ := hno (by omega)
    rw [e1, e2, e3]
    exact ⟨_, ⟨rfl, rfl⟩, inferInstance⟩
  · intro g2_3
    refine s_val rfl (v_move rfl) ?_
    refine s_yes rfl rfl ?_
    refine s_val rfl (v_gtr rfl rfl) ?_
    refine s_val rfl (v_pick_f rfl rfl) ?_
    refine x_nil ?_
    refine n_then ?_
    refine x_if rfl ?_ ?_
    · intro c2
      refine x_seq ?_
      refine x_region ?_
      refine s_val rfl (v_assign rfl) ?_
      refine s_val rfl (v_assign rfl) ?_
      refine s_val rfl (v_assign rfl) ?_
      refine x_nil ?_
      refine n_then ?_
      refine x_ret ?_
      refine r_then ?_
      refine x_done (.inl rfl) (.cons (r_tmp rfl) (.cons (r_tmp rfl) (.cons (r_tmp rfl) .nil))) ?_
      obtain ⟨e1, e2, e3⟩ := hno (by omega)
      rw [e1, e2, e3]
      exact ⟨_, ⟨rfl, rfl⟩, inferInstance⟩
    · intro c2
      refine x_skip ?_
      refine n_then ?_
      refine x_seq ?_
      refine run_form (E := 99) (sz := 4) (a := a) (c := c) (n := l.length) (ys := l.flatMap dsV) (fun hf1 => ?_)
      refine x_region ?_
      refine s_val rfl (v_move rfl) ?_
      refine s_val rfl (v_move rfl) ?_
      refine s_do rfl (d_call3 Tryz.call186 rfl (chGather_spec W0 _ pv ps pm d c a fr pg h hF l (sla_cells hf1 (cells_osl (E := 99) (sz := 4) (a := a) (n := l.length) (c := c)) (fun _ => rfl) rfl (by decide)) hl hn 36 (by decide))) ?_
      rintro _ B_ ⟨a2, cc, rfl, hB_⟩
      obtain rfl := hB_.symm
      rw [show gthK fr pg l 36 l.length = G from hG]
      refine s_val rfl (v_assign rfl) ?_
      refine x_nil ?_
      refine n_then ?_
      refine x_seq ?_
      refine run_sla (E := 5) (sz := 1) (a := a2) (n := G.length) (c := cc) (fun x => [bV x]) G (fun _ => rfl) (by decide) (byV_fm G).symm (fun hs => ?_)
      refine run_cap (E := 5) (sz := 1) (a := a2) (c := cc) (n := G.length) (fun hcap => ?_)
      refine x_region ?_
      refine s_val rfl (v_move rfl) ?_
      refine s_do rfl (d_call Tryz.call187 rfl (octGet_any W0 _ a2 cc G 0 4 hs hGb hcap.1 (by have := hcap.2; simp only [maxLen] at this; omega))) ?_
      rintro _ B_ ⟨rfl, hB_⟩
      obtain rfl := hB_.symm
      refine s_val rfl (v_move rfl) ?_
      refine s_val rfl (v_extract rfl rfl) ?_
      refine s_val rfl (v_extract rfl rfl) ?_
      refine s_val rfl (v_assign rfl) ?_
      refine s_val rfl (v_assign rfl) ?_
      refine x_nil ?_
      refine n_then ?_
      refine x_seq ?_
      refine x_seq ?_
      refine x_region ?_
      refine s_val rfl (v_move rfl) ?_
      refine s_val rfl (v_neq rfl rfl) ?_
      refine x_nil ?_
      refine n_then ?_
      refine x_if rfl ?_ ?_
      · intro c6
        refine x_seq ?_
        refine x_region ?_
        refine s_val rfl (v_assign rfl) ?_
        refine s_val rfl (v_assign rfl) ?_
        refine s_val rfl (v_assign rfl) ?_
        refine x_nil ?_
        refine n_then ?_
        refine x_ret ?_
        refine r_then ?_
        refine x_done (.inl rfl) (.cons (r_tmp rfl) (.cons (r_tmp rfl) (.cons (r_tmp rfl) .nil))) ?_
        obtain ⟨e1, e2, e3⟩ := hno (fun q => by
          have h4 : inB G.length 0 4 = true := inB_iff.2 ⟨by omega, by omega, by omega, by omega⟩
          rw [getE, h4] at c6; simp at c6)
        rw [e1, e2, e3]
        exact ⟨_, ⟨rfl, rfl⟩, inferInstance⟩
      · intro c6
        have h4 : 4 ≤ G.length := by
          by_cases q : inB G.length 0 4 = true
          · have := inB_iff.1 q; omega
          · exfalso; rw [getE, if_neg q] at c6; simp at c6
        have hlw : 4 ≤ lenW l false ∧ lenW l false ≤ 36 := ⟨by omega, by omega⟩
        have hB1 : pkB fr pg l = true := by rw [hX, decide_eq_true_iff]; exact ⟨hlw.1, hlw.2, h4⟩
        have hB2 : pkT fr pg l = getN G 0 4 := by
          rw [pkT, hB1, if_pos rfl, hG, getN, if_pos (inB_iff.2 ⟨by omega, by omega, by omega, by omega⟩)]; rfl
        have hB3 : pkS fr pg l = strB (G.drop 4) := by rw [pkS, hB1, if_pos rfl, hG]
        rw [hB1, hB2, hB3]
        have hgn := getN_lt (at_ := 0) (w := 4) hGb
        obtain ⟨g, o, rfl, hcg⟩ := hs.all (by intro q; rw [q] at h4; simp at h4) (fun _ => rfl)
        rw [byV_fm] at hcg
        refine x_skip ?_
        refine n_then ?_
        refine x_seq ?_
        refine x_draw [(g, o, byV G)] 8 mixed rfl (sc_cons hcg sc_end) (fun hS => ?_)
        refine d_take 0 rfl rfl (by kernel_rfl) (by kernel_rfl) (by kernel_rfl) rfl hS (v_move rfl) ?_
        refine d_take 1 rfl rfl (by kernel_rfl) (by kernel_rfl) (by kernel_rfl) rfl hS (v_conv Tryz.underlying53 Tryz.underlying3 rfl (w64 (by omega))) ?_
        refine d_take 2 rfl rfl (by kernel_rfl) (by kernel_rfl) (by kernel_rfl) rfl hS (v_move rfl) ?_
        refine d_take 3 rfl rfl (by kernel_rfl) (by kernel_rfl) (by kernel_rfl) rfl hS (v_sliceLg Tryz.underlying76 Tryz.sizeOf5 rfl (i := 4) rfl rfl (by omega) rfl) ?_
        refine d_take 4 rfl rfl (by kernel_rfl) (by kernel_rfl) (by kernel_rfl) rfl hS (v_bstrSN Tryz.underlying76 Tryz.underlying5 Tryz.underlying9 rfl (by rw [List.length_drop]) (sla_tail (sla_byV (cells_sc (k := 0) rfl)) hcap.1 (by omega))) ?_
        refine d_take 5 rfl rfl (by kernel_rfl) (by kernel_rfl) (by kernel_rfl) rfl hS (v_assign rfl) ?_
        refine d_take 6 rfl rfl (by kernel_rfl) (by kernel_rfl) (by kernel_rfl) rfl hS (v_assign rfl) ?_
        refine d_take 7 rfl rfl (by kernel_rfl) (by kernel_rfl) (by kernel_rfl) rfl hS (v_assign rfl) ?_
        refine d_done (by kernel_rfl) ?_; clear hS
        refine n_then ?_
        refine x_ret ?_
        refine x_done (.inl rfl) (.cons (r_tmp rfl) (.cons (r_tmp rfl) (.cons (r_tmp rfl) .nil))) ?_
        exact ⟨_, ⟨rfl, rfl⟩, inferInstance⟩
end Go.Proofs.YtechkfopkpkigaaGreat
namespace Go.Proofs.YtechkfopkpkigaaGreat
open Go.RowKit
set_option linter.unusedSimpArgs false
set_option linter.unusedVariables false
set_option maxRecDepth 20000
theorem v_fieldV {P : Program} {S : World → Prop} {N : FSz} {e : Env} {x : Operand} {v : Value} {l : List Value} {T : TypeId} {fs : Array Field} {nm : String} {i ft fo : Nat} {em : Bool} {tg pk : String} {bo : Nat} (hx : ev e x = some (.agg l.toArray)) (hu : P.underlying T = some (.struct fs)) (hf : fs.toList[i]? = some ⟨nm, ft, fo, em, tg, pk, bo⟩)
    (ha : ∀ w, (isAgg ft).run P w = .ok false w) (hl : l[fo]? = some v) : Val P S N e (.field T x i) v := fun a w _ _ _ _ _ hF _ => by
  have hf' : fs[i]? = some ⟨nm, ft, fo, em, tg, pk, bo⟩ := by simpa using hf
  simp only [execOp, Instr.field, hF.eval hx, Sem.run_bind, run_und hu, hf', Result.andThen_ok, asAgg, Sem.run_pure]
  rw [part_scal ha hl]; rfl
def fZ : List Frm := List.replicate 8 zeros
theorem fZ_ok : Frs fZ := Frs.new 8
end Go.Proofs.YtechkfopkpkigaaGreat
namespace Go.Proofs.YtechkfopkpkigaaGreat
open Go.RowKit
set_option linter.unusedSimpArgs false
set_option linter.unusedVariables false
set_option maxRecDepth 20000
def PrS (ps : List Prt) : Prop := PrOk ps ∧ ∀ x ∈ ps, ∀ s ∈ x.l, s.size ≤ 32
theorem PrS.at_ {ps : List Prt} (h : PrS ps) {i : Nat} (hi : i < ps.length) : ∀ s ∈ (ps.getD i default).l, s.size ≤ 32 := by
  rw [show ps.getD i default = ps[i] by simp [List.getD, hi]]; exact h.2 _ (List.getElem_mem hi)
theorem PrS.set {ps : List Prt} (h : PrS ps) {i : Nat} {x : Prt} (hx : x.l.length ≤ mostP x) (hs : ∀ s ∈ x.l, s.size ≤ 32) : PrS (ps.set i x) := ⟨h.1.set hx, fun y hy => by
  rcases List.mem_or_eq_of_mem_set hy with q | q
  · exact h.2 y q
  · rw [q]; exact hs⟩
theorem putPr_sz {x : Prt} {s : ByteArray} (h : ∀ t ∈ x.l, t.size ≤ 32) (hs : s.size ≤ 32) : ∀ t ∈ (putPr x s).l, t.size ≤ 32 := by
  unfold putPr; split
  · exact h
  · intro t ht
    rcases List.mem_append.1 ht with q | q
    · exact h t q
    · simp at q; rw [q]; exact hs
theorem inR_nat {ps : List Prt} {i : Int} (h : inR ps i = true) : ∃ k : Nat, i = (k : Int) ∧ k < ps.length := by
  have := inR_iff.1 h
  exact ⟨i.toNat, by omega, by omega⟩
theorem sndP_ok {ps : List Prt} (h : PrS ps) (f t : Int) (s : ByteArray) : PrS (sndP ps f t s) := by
  unfold sndP; split
  · rename_i hb
    simp only [sndB, Bool.and_eq_true, decide_eq_true_iff] at hb
    obtain ⟨k, rfl, hk⟩ := inR_nat hb.1.1.2
    exact h.set (putPr_ok (h.1.at_ hk)) (putPr_sz (h.at_ hk) hb.1.2)
  · exact h
theorem tkP_ok {ps : List Prt} (h : PrS ps) (i : Int) : PrS (tkP ps i) := by
  unfold tkP; split
  · rename_i hb
    simp only [tkB, Bool.and_eq_true] at hb
    obtain ⟨k, rfl, hk, _⟩ := isIn_nat hb.1
    refine h.set ?_ fun s hs => h.at_ hk s (List.mem_of_mem_tail hs)
    have := h.1.at_ hk
    show (pAt ps k).l.tail.length ≤ mostP (pAt ps k)
    rw [List.length_tail]
    show (ps.getD k default).l.length - 1 ≤ mostP (ps.getD k default)
    omega
  · exact h
theorem tkV_size {ps : List Prt} (h : PrS ps) (i : Int) : (tkV ps i).size ≤ 32 := by
  unfold tkV; split
  · rename_i hb
    simp only [tkB, Bool.and_eq_true, decide_eq_true_iff] at hb
    obtain ⟨k, rfl, hk, _⟩ := isIn_nat hb.1
    have h2 := h.at_ hk
    show ((ps.getD k default).l.headD ByteArray.empty).size ≤ 32
    cases q : (ps.getD k default).l with
    | nil => simp
    | cons s l => exact h2 s (by rw [q]; simp)
  · simp
theorem newP_okS {l : List Pt2} (h : l.length ≤ 8) : PrS (newP l) := ⟨newP_ok h, fun x hx s hs => by
  obtain ⟨y, _, rfl⟩ := List.mem_map.1 hx
  simp at hs⟩
structure SvR where
  m : Nat
  t : Nat
  fr : List Frm
  d : Nat
  ps : List Prt
def doR (tx : Bool) (pg : List Pl) (port : Int) (ps : List Prt) (fr : List Frm) (d : Nat) (l : List Dsc) : SvR :=
  if tx then (if pkB fr pg l then ⟨4 + (pkS fr pg l).size, 0, fr, d, sndP ps port (pkT fr pg l : Nat) (pkS fr pg l)⟩ else ⟨0, 0, fr, d, ps⟩)
  else
    ⟨(scK fr pg d l 0 (bL (tkV ps port)) l.length).2.1, (scK fr pg d l 0 (bL (tkV ps port)) l.length).2.1, (scK fr pg d l 0 (bL (tkV ps port)) l.length).2.2.1, (scK fr pg d l 0 (bL (tkV ps port)) l.length).2.2.2, tkP ps port⟩
def moB (tx : Bool) (ps : List Prt) (port : Int) : Bool := tx || decide (0 < wtP ps port)
structure DoOk (fr : List Frm) (x : SvR) : Prop where
  frs : Frs x.fr
  len : x.fr.length = fr.length
  d : x.d < 4096
  ps : PrS x.ps
  m : x.m ≤ 36
  t : x.t ≤ 36
theorem doR_ok {tx : Bool} {pg : List Pl} {port : Int} {ps : List Prt} {fr : List Frm} {d : Nat} {l : List Dsc} (hp : PrS ps) (hF : Frs fr) (hd : d < 4096) : DoOk fr (doR tx pg port ps fr d l) := by
  unfold doR
  cases tx with
  | true =>
    rw [if_pos rfl]
    have := pkS_size fr pg l
    split
    · exact ⟨hF, rfl, hd, sndP_ok hp _ _ _, by simp only; omega, by simp⟩
    · exact ⟨hF, rfl, hd, hp, by simp, by simp⟩
  | false =>
    rw [if_neg (by decide)]
    have h := scK_ok (pg := pg) (l := l) (from_ := 0) (bs := bL (tkV ps port)) hF hd l.length
    have h1 := h.dn
    rw [bL_len] at h1
    have h2 := tkV_size hp port
    exact ⟨h.frs, h.len, h.d, tkP_ok hp _, by simp only; omega, by simp only; omega⟩
@[reducible] def nicC (p bv pv bp bi : Nat) (port : Int) (ps : List Prt) : HP := grp [portsH p ps, pt bv (cob [.pointer (some ⟨pv, 0, none⟩)] 45), pt bp (cob [.pointer (some ⟨p, 0, none⟩)] 77), pt bi (cob [.int .i64 port] 3)]
structure SvF (W0 : World) (tx : Bool) (pv ps_ pm : Nat) (pg : List Pl) (E : List Prt → HP) (port : Int) (fm : FuncId) (cm : List Value) (fd : FuncId) (cd : List Value) : Prop where
  callm : ∀ args w, (callFunc fm args).run Tryz.prog w = .ok (.enter fm args) w
  calld : ∀ args w, (callFunc fd args).run Tryz.prog w = .ok (.enter fd args) w
  more : ∀ ps R, PrS ps → Spec Tryz.prog W0 fm ([] ++ [] ++ cm) (kH 0 (E ps) :: R) (fun v B => v = .bool (moB tx ps port) ∧ B = kH 0 (E ps) :: R)
  dos : ∀ ps fr d l a c R, PrS ps → Frs fr → d < 4096 → (∀ x ∈ l, x.ok) → l.length ≤ 9 → Spec Tryz.prog W0 fd ([] ++ [.slice a l.length c] ++ cd) (osl 99 4 (.slice a l.length c) (l.flatMap dsV) :: pt pv (viO ps_ pm d) :: stoH ps_ fr :: pt pm (gmO pg) :: kH 0 (E ps) :: R)
    (fun v B => v = .tuple #[.int .i64 (doR tx pg port ps fr d l).m, .int .i64 (doR tx pg port ps fr d l).t] ∧ B = pt pv (viO ps_ pm (doR tx pg port ps fr d l).d) :: stoH ps_ (doR tx pg port ps fr d l).fr :: pt pm (gmO pg) :: kH 0 (E (doR tx pg port ps fr d l).ps) :: R)
theorem tx_svf (W0 : World) (p bv pv bp bi ps_ pm : Nat) (pg : List Pl) (h : Pgs pg) (port : Int) :
    SvF W0 true pv ps_ pm pg (nicC p bv pv bp bi port) port 115 [] 117 [.pointer (some ⟨bv, 0, none⟩), .pointer (some ⟨bp, 0, none⟩), .pointer (some ⟨bi, 0, none⟩)] := ⟨Tryz.call115, Tryz.call117, fun ps R hp => by
  refine spec_body Tryz.func115 Tryz.ntmps115 rfl rfl ?_
  refine x_seq ?_
  refine x_region ?_
  refine s_val rfl (v_assign rfl) ?_
  refine x_nil ?_
  refine n_then ?_
  refine x_seq ?_
  refine x_region ?_
  refine s_val rfl (v_assign rfl) ?_
  refine x_nil ?_
  refine n_then ?_
  refine x_ret ?_
  refine x_done (.inl rfl) (.cons (r_tmp rfl) .nil) ?_
  exact ⟨_, ⟨rfl, rfl⟩, inferInstance⟩
  , fun ps fr d l a c R hp hF hd hl hn => by
  have hT := pkT_lt hF pg l
  have hS := pkS_size fr pg l
  refine spec_ent (B := osl 99 4 (.slice a l.length c) (l.flatMap dsV) :: pt pv (viO ps_ pm d) :: stoH ps_ fr :: pt pm (gmO pg) :: portsH p ps :: pt bv (cob [.pointer (some ⟨pv, 0, none⟩)] 45) :: pt bp (cob [.pointer (some ⟨p, 0, none⟩)] 77) :: pt bi (cob [.int .i64 port] 3) :: R) (Ent.cons (Ent.cons (Ent.cons (Ent.cons ent_open)))) ?_
  refine spec_body Tryz.func117 Tryz.ntmps117 rfl rfl ?_
  refine x_seq ?_
  refine x_region ?_
  refine s_val rfl (v_assign rfl) ?_
  refine s_val rfl (v_assign rfl) ?_
  refine x_nil ?_
  refine n_then ?_
  refine x_seq ?_
  refine x_region ?_
  refine s_val rfl (v_load Tryz.isAgg45 rfl (cell_own rfl)) ?_
  refine s_val rfl (v_move rfl) ?_
  refine s_do rfl (d_call4 Tryz.call118 rfl (packet_spec W0 _ pv ps_ pm d c a fr pg h hF l hl (by omega))) ?_
  rintro _ B_ ⟨rfl, hB_⟩
  obtain rfl := hB_.symm
  refine s_val rfl (v_move rfl) ?_
  refine s_val rfl (v_extract rfl rfl) ?_
  refine s_val rfl (v_extract rfl rfl) ?_
  refine s_val rfl (v_extract rfl rfl) ?_
  refine s_val rfl (v_assign rfl) ?_
  refine s_val rfl (v_assign rfl) ?_
  refine s_val rfl (v_assign rfl) ?_
  refine x_nil ?_
  refine n_then ?_
  refine x_seq ?_
  refine x_seq ?_
  refine x_region ?_
  refine s_val rfl (v_move rfl) ?_
  refine s_val rfl (v_not rfl) ?_
  refine x_nil ?_
  refine n_then ?_
  refine x_if rfl ?_ ?_
  · intro c2
    refine x_seq ?_
    refine x_region ?_
    refine s_val rfl (v_assign rfl) ?_
    refine s_val rfl (v_assign rfl) ?_
    refine x_nil ?_
    refine n_then ?_
    refine x_ret ?_
    refine r_then ?_
    refine x_done (.inl rfl) (.cons (r_tmp rfl) (.cons (r_tmp rfl) .nil)) ?_
    have hb : ¬ pkB fr pg l = true := by simpa using c2
    have hD : doR true pg port ps fr d l = ⟨0, 0, fr, d, ps⟩ := by rw [doR, if_pos rfl, if_neg hb]
    rw [hD]
    exact ⟨_, ⟨rfl, rfl⟩, inferInstance⟩
  · intro c2
    have hb : pkB fr pg l = true := by simpa using c2
    have hD : doR true pg port ps fr d l = ⟨4 + (pkS fr pg l).size, 0, fr, d, sndP ps port (pkT fr pg l : Nat) (pkS fr pg l)⟩ := by rw [doR, if_pos rfl, if_pos hb]
    rw [hD]
    refine x_skip ?_
    refine n_then ?_
    refine x_seq ?_
    refine x_region ?_
    refine s_val rfl (v_load Tryz.isAgg77 rfl (cell_own rfl)) ?_
    refine s_val rfl (v_load Tryz.isAgg3 rfl (cell_own rfl)) ?_
    refine s_val rfl (v_move rfl) ?_
    refine s_val rfl (v_move rfl) ?_
    refine s_do rfl (d_call1 Tryz.call119 rfl (prSend_spec W0 _ p ps hp.1 port (pkT fr pg l : Nat) (pkS fr pg l) (by omega))) ?_
    rintro _ B_ ⟨rfl, hB_⟩
    obtain rfl := hB_.symm
    refine x_nil ?_
    refine n_then ?_
    refine x_seq ?_
    refine x_region ?_
    refine s_val rfl (v_move rfl) ?_
    refine s_val rfl (v_len_string Tryz.underlying9 rfl) ?_
    refine s_val rfl (v_add rfl rfl (w64 (by omega))) ?_
    refine s_val rfl (v_assign rfl) ?_
    refine s_val rfl (v_assign rfl) ?_
    refine x_nil ?_
    refine n_then ?_
    refine x_ret ?_
    refine x_done (.inl rfl) (.cons (r_tmp rfl) (.cons (r_tmp rfl) .nil)) ?_
    exact ⟨_, ⟨rfl, rfl⟩, inferInstance⟩
  ⟩
theorem rx_svf (W0 : World) (p bv pv bp bi ps_ pm : Nat) (pg : List Pl) (h : Pgs pg) (port : Int) :
    SvF W0 false pv ps_ pm pg (nicC p bv pv bp bi port) port 120 [.pointer (some ⟨bp, 0, none⟩), .pointer (some ⟨bi, 0, none⟩)] 121 [.pointer (some ⟨bp, 0, none⟩), .pointer (some ⟨bi, 0, none⟩), .pointer (some ⟨bv, 0, none⟩)] := ⟨Tryz.call120, Tryz.call121, fun ps R hp => by
  refine spec_ent (B := portsH p ps :: pt bv (cob [.pointer (some ⟨pv, 0, none⟩)] 45) :: pt bp (cob [.pointer (some ⟨p, 0, none⟩)] 77) :: pt bi (cob [.int .i64 port] 3) :: R) ent_open ?_
  refine spec_body Tryz.func120 Tryz.ntmps120 rfl rfl ?_
  refine x_seq ?_
  refine x_region ?_
  refine s_val rfl (v_assign rfl) ?_
  refine x_nil ?_
  refine n_then ?_
  refine x_seq ?_
  refine x_region ?_
  refine s_val rfl (v_load Tryz.isAgg77 rfl (cell_own rfl)) ?_
  refine s_val rfl (v_load Tryz.isAgg3 rfl (cell_own rfl)) ?_
  refine s_do rfl (d_call1 Tryz.call46 rfl (prWaits_spec W0 _ p ps port)) ?_
  rintro _ B_ ⟨rfl, hB_⟩
  obtain rfl := hB_.symm
  refine s_val rfl (v_gtr rfl rfl) ?_
  refine s_val rfl (v_assign rfl) ?_
  refine x_nil ?_
  refine n_then ?_
  refine x_ret ?_
  refine x_done (.inl rfl) (.cons (r_tmp rfl) .nil) ?_
  refine ⟨_, ⟨?_, rfl⟩, inferInstance⟩
  refine congrArg Value.bool ?_
  rw [Bool.eq_iff_iff, moB, Bool.false_or]; simp
  , fun ps fr d l a c R hp hF hd hl hn => by
  have hsz := tkV_size hp port
  have hD : doR false pg port ps fr d l = ⟨(scK fr pg d l 0 (bL (tkV ps port)) l.length).2.1, (scK fr pg d l 0 (bL (tkV ps port)) l.length).2.1, (scK fr pg d l 0 (bL (tkV ps port)) l.length).2.2.1, (scK fr pg d l 0 (bL (tkV ps port)) l.length).2.2.2, tkP ps port⟩ := by rw [doR, if_neg (by decide)]
  rw [hD]
  obtain ⟨s, hs⟩ : ∃ s, tkV ps port = s := ⟨_, rfl⟩
  rw [hs] at hsz ⊢
  have hbl := bL_len s
  refine spec_ent (B := osl 99 4 (.slice a l.length c) (l.flatMap dsV) :: pt pv (viO ps_ pm d) :: stoH ps_ fr :: pt pm (gmO pg) :: portsH p ps :: pt bv (cob [.pointer (some ⟨pv, 0, none⟩)] 45) :: pt bp (cob [.pointer (some ⟨p, 0, none⟩)] 77) :: pt bi (cob [.int .i64 port] 3) :: R) (Ent.cons (Ent.cons (Ent.cons (Ent.cons ent_open)))) ?_
  refine spec_body Tryz.func121 Tryz.ntmps121 rfl rfl ?_
  refine x_seq ?_
  refine x_region ?_
  refine s_val rfl (v_assign rfl) ?_
  refine s_val rfl (v_assign rfl) ?_
  refine x_nil ?_
  refine n_then ?_
  refine x_seq ?_
  refine x_region ?_
  refine s_val rfl (v_load Tryz.isAgg77 rfl (cell_own rfl)) ?_
  refine s_val rfl (v_load Tryz.isAgg3 rfl (cell_own rfl)) ?_
  refine s_do rfl (d_call1 Tryz.call112 rfl (prTake_spec W0 _ p ps hp.1 port)) ?_
  rintro _ B_ ⟨rfl, hB_⟩
  obtain rfl := hB_.symm
  rw [hs]
  refine s_val rfl (v_move rfl) ?_
  refine s_val rfl (v_extract rfl rfl) ?_
  refine s_val rfl (v_extract rfl rfl) ?_
  refine s_val rfl (v_assign rfl) ?_
  refine s_val rfl (v_assign rfl) ?_
  refine x_nil ?_
  refine n_then ?_
  refine x_seq ?_
  refine run_form (E := 99) (sz := 4) (a := a) (c := c) (n := l.length) (ys := l.flatMap dsV) (fun hf1 => ?_)
  refine x_region ?_
  refine s_val rfl (v_load Tryz.isAgg45 rfl (cell_own rfl)) ?_
  refine s_val rfl (v_move rfl) ?_
  refine s_val rfl (v_move rfl) ?_
  refine s_do rfl (d_strb Tryz.underlying9 Tryz.underlying76 Tryz.underlying5 rfl) ?_
  rintro _ B_ ⟨b, cb, arr, mk, rfl, hcb, har, hB_⟩
  obtain rfl := hB_.symm
  rw [← hbl] at hcb ⊢
  refine s_do rfl (d_call3 Tryz.call122 rfl (chScatter_spec W0 _ pv ps_ pm d c cb a (some ⟨b, 0, none⟩) fr pg h hF hd l (sla_cells hf1 (cells_osl (E := 99) (sz := 4) (a := a) (n := l.length) (c := c)) (fun _ => rfl) rfl (by decide)) hl (by omega) 0 (by decide) (bL s) (bL_by s) (sla_byV (cells_obj har)) (by omega) hcb)) ?_
  rintro _ B_ ⟨rfl, hB_⟩
  obtain rfl := hB_.symm
  refine s_val rfl (v_assign rfl) ?_
  refine x_nil ?_
  refine n_then ?_
  refine x_seq ?_
  refine x_region ?_
  refine s_val rfl (v_move rfl) ?_
  refine s_val rfl (v_move rfl) ?_
  refine s_val rfl (v_assign rfl) ?_
  refine s_val rfl (v_assign rfl) ?_
  refine x_nil ?_
  refine n_then ?_
  refine x_ret ?_
  refine x_done (.inl rfl) (.cons (r_tmp rfl) (.cons (r_tmp rfl) .nil)) ?_
  exact ⟨_, ⟨rfl, rfl⟩, inferInstance⟩
  ⟩
end Go.Proofs.YtechkfopkpkigaaGreat
namespace Go.Proofs.YtechkfopkpkigaaGreat
open Go.RowKit
set_option linter.unusedSimpArgs false
set_option linter.unusedVariables false
set_option maxRecDepth 20000
structure SvS where
  fr : List Frm
  d : Nat
  s : QS
  ps : List Prt
  c : Nat
  n : Nat
  b : Nat
  w : Int
@[reducible] def SvS.v (x : SvS) : List Value := [.int .i64 x.c, .int .i64 x.n, .int .i64 x.b, .int .i64 x.w]
@[reducible] def svY (tx : Bool) (pg : List Pl) (port : Int) (x : SvS) : SvR := doR tx pg port x.ps x.fr x.d (tkR x.fr pg x.s).2.1
@[reducible] def svZ (tx : Bool) (pg : List Pl) (port : Int) (x : SvS) : DnR := dnX (svY tx pg port x).fr pg (svY tx pg port x).d (tkS x.fr pg x.s) (u32N ((tkR x.fr pg x.s).1 : Nat)) (u32N ((svY tx pg port x).t : Nat))
def zB (c : Int) : Bool := decide (c = 0)
def svSt (tx : Bool) (pg : List Pl) (port : Int) (x : SvS) : Bool × SvS :=
  if moB tx x.ps port then
    (if (tkR x.fr pg x.s).2.2.1 then (zB (svZ tx pg port x).c, ⟨(svZ tx pg port x).fr, (svZ tx pg port x).d, (svZ tx pg port x).s, (svY tx pg port x).ps, x.c + 1, x.n + (tkR x.fr pg x.s).2.1.length, x.b + (svY tx pg port x).m, (svZ tx pg port x).c⟩)
      else (false, { x with s := tkS x.fr pg x.s, w := (tkR x.fr pg x.s).2.2.2 }))
  else (false, x)
theorem svSt_mo {tx : Bool} {pg : List Pl} {port : Int} {x : SvS} (hm : moB tx x.ps port = true) : svSt tx pg port x = (if (tkR x.fr pg x.s).2.2.1 then (zB (svZ tx pg port x).c, ⟨(svZ tx pg port x).fr, (svZ tx pg port x).d, (svZ tx pg port x).s, (svY tx pg port x).ps, x.c + 1, x.n + (tkR x.fr pg x.s).2.1.length, x.b + (svY tx pg port x).m, (svZ tx pg port x).c⟩)
      else (false, { x with s := tkS x.fr pg x.s, w := (tkR x.fr pg x.s).2.2.2 })) := by rw [svSt, if_pos hm]
def svGo (tx : Bool) (pg : List Pl) (port : Int) : Nat → SvS → SvS
  | 0, x => x
  | k + 1, x => if (svSt tx pg port x).1 then svGo tx pg port k (svSt tx pg port x).2 else (svSt tx pg port x).2
theorem svGo_stop {tx : Bool} {pg : List Pl} {port : Int} {k : Nat} {x : SvS} (hk : 0 < k) (h : (svSt tx pg port x).1 = false) : svGo tx pg port k x = (svSt tx pg port x).2 := by
  obtain ⟨j, rfl⟩ : ∃ j, k = j + 1 := ⟨k - 1, by omega⟩
  rw [svGo, h]; rfl
theorem svGo_go {tx : Bool} {pg : List Pl} {port : Int} {k : Nat} {x : SvS} (hk : 0 < k) (h : (svSt tx pg port x).1 = true) : svGo tx pg port k x = svGo tx pg port (k - 1) (svSt tx pg port x).2 := by
  obtain ⟨j, rfl⟩ : ∃ j, k = j + 1 := ⟨k - 1, by omega⟩
  rw [svGo, h]; rfl
theorem tkS_r (fr : List Frm) (pg : List Pl) (s : QS) : (tkS fr pg s).r = s.r := by
  have := nxS_r fr pg s
  unfold tkS; split
  · split <;> exact this
  · exact this
theorem dnX_r (fr : List Frm) (pg : List Pl) (d : Nat) (s : QS) (h n : Nat) : (dnX fr pg d s h n).s.r = s.r := by
  unfold dnX; split
  · split
    · split
      · split <;> rfl
      · rfl
    · rfl
  · rfl
theorem tkR_ok {fr : List Frm} (hF : Frs fr) (pg : List Pl) (s : QS) : (∀ x ∈ (tkR fr pg s).2.1, x.ok) ∧ (tkR fr pg s).2.1.length ≤ 9 := by
  have h := wkAll_ok hF pg s.r (nxR fr pg s).1
  unfold tkR; split
  · split
    · exact ⟨fun x hx => by simp at hx, by simp⟩
    · exact h
  · exact ⟨fun x hx => by simp at hx, by simp⟩
structure SvOk (len : Nat) (r : Rg3) (x : SvS) : Prop where
  frs : Frs x.fr
  len : x.fr.length = len
  d : x.d < 4096
  s : QOk x.s
  r : x.s.r = r
  ps : PrS x.ps
theorem svSt_ok {tx : Bool} {pg : List Pl} {port : Int} {len : Nat} {r : Rg3} {x : SvS} (h : SvOk len r x) : SvOk len r (svSt tx pg port x).2 ∧ (svSt tx pg port x).2.c ≤ x.c + 1 ∧ (svSt tx pg port x).2.n ≤ x.n + 9 ∧ (svSt tx pg port x).2.b ≤ x.b + 36 := by
  have ht := tkR_ok h.frs pg x.s
  have hy := doR_ok (tx := tx) (pg := pg) (port := port) (l := (tkR x.fr pg x.s).2.1) h.ps h.frs h.d
  have hz := dnX_ok (pg := pg) (s := tkS x.fr pg x.s) (h := u32N ((tkR x.fr pg x.s).1 : Nat)) (n := u32N ((svY tx pg port x).t : Nat)) hy.frs hy.d (tkS_ok h.s)
  have hr := dnX_r (svY tx pg port x).fr pg (svY tx pg port x).d (tkS x.fr pg x.s) (u32N ((tkR x.fr pg x.s).1 : Nat)) (u32N ((svY tx pg port x).t : Nat))
  rw [tkS_r] at hr
  unfold svSt; split
  · split
    · exact ⟨⟨hz.1, hz.2.1.trans (hy.len.trans h.len), hz.2.2.1, hz.2.2.2, hr.trans h.r, hy.ps⟩, Nat.le_refl _, Nat.add_le_add_left ht.2 _, Nat.add_le_add_left hy.m _⟩
    · exact ⟨⟨h.frs, h.len, h.d, tkS_ok h.s, (tkS_r _ _ _).trans h.r, h.ps⟩, Nat.le_succ _, Nat.le_add_right _ _, Nat.le_add_right _ _⟩
  · exact ⟨h, Nat.le_succ _, Nat.le_add_right _ _, Nat.le_add_right _ _⟩
theorem serve_spec (W0 : World) (R : List HP) (tx : Bool) (bq pv ps_ pm : Nat) (pg : List Pl) (h : Pgs pg) (E : List Prt → HP) (port : Int) (fm : FuncId) (cm : List Value) (fd : FuncId) (cd : List Value) (hV : SvF W0 tx pv ps_ pm pg E port fm cm fd cd)
    (fr : List Frm) (d : Nat) (sd sa su n last put : Nat) (on : Bool) (br : Int) (ps : List Prt) (hn : n ≤ 8) (hr : Rg3.ok ⟨sd, sa, su, n⟩) (len : Nat) (hx : SvOk len ⟨sd, sa, su, n⟩ ⟨fr, d, ⟨⟨sd, sa, su, n⟩, on, br, last, put⟩, ps, 0, 0, 0, 0⟩) :
    Spec Tryz.prog W0 116 [.pointer (some ⟨pv, 0, none⟩), .pointer (some ⟨bq, 0, none⟩), .func (.func fm) #[] cm.toArray, .func (.func fd) #[] cd.toArray]
      (pt bq (qO true ⟨⟨sd, sa, su, n⟩, on, br, last, put⟩) :: pt pv (viO ps_ pm d) :: stoH ps_ fr :: pt pm (gmO pg) :: kH 0 (E ps) :: R)
      (fun v B => ∃ y, y = svGo tx pg port n ⟨fr, d, ⟨⟨sd, sa, su, n⟩, on, br, last, put⟩, ps, 0, 0, 0, 0⟩ ∧ v = .agg (SvS.v y).toArray ∧ B = pt bq (qO true y.s) :: pt pv (viO ps_ pm y.d) :: stoH ps_ y.fr :: pt pm (gmO pg) :: kH 0 (E y.ps) :: R) := by
  obtain ⟨x0, hx0⟩ : ∃ x0 : SvS, x0 = ⟨fr, d, ⟨⟨sd, sa, su, n⟩, on, br, last, put⟩, ps, 0, 0, 0, 0⟩ := ⟨_, rfl⟩
  rw [← hx0] at hx ⊢
  refine spec_body Tryz.func116 Tryz.ntmps116 rfl rfl ?_
  refine x_seq ?_
  refine x_region ?_
  refine s_do rfl (d_allocA Tryz.zeroValue90) ?_
  rintro _ _ ⟨b8, rfl, rfl⟩
  refine x_nil ?_
  refine n_then ?_
  refine x_scope ?_
  refine x_seq ?_
  refine x_region ?_
  refine s_do rfl (d_allocA Tryz.zeroValue90) ?_
  rintro _ _ ⟨b9, rfl, rfl⟩
  refine x_nil ?_
  refine n_then ?_
  refine x_seq ?_
  refine x_label ?_
  refine n_then ?_
  refine x_cut (fun x : SvS => x = svGo tx pg port n x0) (fun x => [(8, .pointer (some ⟨b8, 0, none⟩)), (9, .pointer (some ⟨b9, 0, none⟩))]) (fun x => pt b8 (cob [.int .i64 0, .int .i64 0, .int .i64 0, .int .i64 0] 90) :: pt b9 (cob x.v 90) :: pt bq (qO true x.s) :: pt pv (viO ps_ pm x.d) :: stoH ps_ x.fr :: pt pm (gmO pg) :: kH 0 (E x.ps) :: R) ?_ ?_
  · skip
    refine x_seq ?_
    refine x_region ?_
    refine s_val rfl (v_move rfl) ?_
    refine s_do rfl (d_call1 Tryz.call29 rfl (qState_spec W0 _ bq ⟨⟨sd, sa, su, n⟩, on, br, last, put⟩)) ?_
    rintro _ B_ ⟨rfl, hB_⟩
    obtain rfl := hB_.symm
    refine s_val rfl (v_fieldA rfl Tryz.underlying59 rfl Tryz.isAgg55 Tryz.sizeOf55 TakeL.eq) ?_
    refine s_val rfl (v_fieldV rfl Tryz.underlying55 rfl Tryz.isAgg3 rfl) ?_
    refine s_val rfl (v_move rfl) ?_
    refine x_nil ?_
    refine n_then ?_
    refine x_block ?_
    refine x_loop (fun X : Nat × SvS => X.1 ≤ n ∧ svGo tx pg port (n - X.1) X.2 = svGo tx pg port n x0 ∧ SvOk len ⟨sd, sa, su, n⟩ X.2 ∧ X.2.c ≤ X.1 ∧ X.2.n ≤ 9 * X.1 ∧ X.2.b ≤ 36 * X.1) (fun X => [(0, .pointer (some ⟨pv, 0, none⟩)), (1, .pointer (some ⟨bq, 0, none⟩)), (2, .func (.func fm) #[] cm.toArray), (3, .func (.func fd) #[] cd.toArray), (8, .pointer (some ⟨b8, 0, none⟩)), (9, .pointer (some ⟨b9, 0, none⟩)), (19, .int .i64 n), (20, .int .i64 X.1)]) (fun X => pt b8 (cob [.int .i64 0, .int .i64 0, .int .i64 0, .int .i64 0] 90) :: pt b9 (cob X.2.v 90) :: pt bq (qO true X.2.s) :: pt pv (viO ps_ pm X.2.d) :: stoH ps_ X.2.fr :: pt pm (gmO pg) :: kH 0 (E X.2.ps) :: R) (fun X => n - X.1) (0, x0) ?_ ?_ ?_ ?_
    · exact ⟨Nat.zero_le _, rfl, hx, by subst hx0; exact Nat.le_refl _, by subst hx0; exact Nat.le_refl _, by subst hx0; exact Nat.le_refl _⟩
    · repeat (first | exact sub_nil | refine sub_cons rfl ?_)
    · subst hx0; exact inferInstance
    · intro ⟨i, x⟩ ⟨hi, hgo, hok, hc, hnn, hb⟩
      dsimp only at hi hgo hok hc hnn hb ⊢
      obtain ⟨fx, dx, sx, px, cx, nx, bx, wx⟩ := x
      obtain ⟨hF, hlen, hd, hs, hsr, hps⟩ := hok
      dsimp only at hF hlen hd hs hsr hps hc hnn hb ⊢
      refine x_seq ?_
      refine x_region ?_
      refine s_val rfl (v_lss rfl rfl) ?_
      refine x_nil ?_
      refine n_then ?_
      refine x_seq ?_
      refine x_if rfl ?_ ?_
      · intro c3
        refine x_skip ?_
        refine n_then ?_
        refine x_seq ?_
        refine x_block ?_
        refine x_seq ?_
        refine x_seq ?_
        refine x_region ?_
        refine s_val rfl (v_move rfl) ?_
        refine s_do rfl (d_callv1 (us := []) (cs := cm) rfl hV.callm rfl (hV.more px _ hps)) ?_
        rintro _ B_ ⟨rfl, hB_⟩
        obtain rfl := hB_.symm
        refine s_val rfl (v_not rfl) ?_
        refine x_nil ?_
        refine n_then ?_
        refine x_if rfl ?_ ?_
        · intro c4
          have hm : ¬ moB tx px port = true := by simpa using c4
          have hst : svSt tx pg port ⟨fx, dx, sx, px, cx, nx, bx, wx⟩ = (false, ⟨fx, dx, sx, px, cx, nx, bx, wx⟩) := by rw [svSt, if_neg hm]
          rw [svGo_stop (by omega) (by rw [hst]), hst] at hgo
          have hfin := hgo
          refine x_exit ?_
          refine e_then ?_
          refine e_block_ne rfl ?_
          refine e_then ?_
          refine e_then ?_
          refine e_block ?_
          refine n_then ?_
          refine mid_intro ⟨fx, dx, sx, px, cx, nx, bx, wx⟩ ?_ ?_ ?_
          · first
              | exact hfin
              | (have h0 : n - i = 0 := by omega
                 rw [h0] at hgo; exact hgo)
          · repeat (first | exact sub_nil | refine sub_cons rfl ?_)
          · exact inferInstance
        · intro c4
          have hm : moB tx px port = true := by simpa using c4
          obtain ⟨hl9, hl8⟩ := tkR_ok hF pg sx
          have hst1 := svSt_mo (pg := pg) (x := ⟨fx, dx, sx, px, cx, nx, bx, wx⟩) hm
          have hokn := svSt_ok (tx := tx) (pg := pg) (port := port) (x := ⟨fx, dx, sx, px, cx, nx, bx, wx⟩) (len := len) (r := ⟨sd, sa, su, n⟩) ⟨hF, hlen, hd, hs, hsr, hps⟩
          refine x_skip ?_
          refine n_then ?_
          refine x_seq ?_
          refine x_region ?_
          refine s_val rfl (v_move rfl) ?_
          refine s_val rfl (v_move rfl) ?_
          refine s_do rfl (d_call4 Tryz.call35 rfl (qTake_spec W0 _ bq pv ps_ pm dx fx pg h hF sx hs (by rw [hsr]; exact hr))) ?_
          rintro _ B_ ⟨a, c, rfl, hB_⟩
          obtain rfl := hB_.symm
          dsimp only [svY, svZ] at hst1
          obtain ⟨r, hr⟩ : ∃ r, tkR fx pg sx = r := ⟨_, rfl⟩
          rw [hr] at hl9 hl8 hst1 ⊢
          refine s_val rfl (v_move rfl) ?_
          refine s_val rfl (v_extract rfl rfl) ?_
          refine s_val rfl (v_extract rfl rfl) ?_
          refine s_val rfl (v_extract rfl rfl) ?_
          refine s_val rfl (v_extract rfl rfl) ?_
          refine s_val rfl (v_assign rfl) ?_
          refine s_val rfl (v_assign rfl) ?_
          refine s_val rfl (v_assign rfl) ?_
          refine s_val rfl (v_assign rfl) ?_
          refine x_nil ?_
          refine n_then ?_
          refine x_seq ?_
          refine x_seq ?_
          refine x_region ?_
          refine s_val rfl (v_move rfl) ?_
          refine s_val rfl (v_not rfl) ?_
          refine x_nil ?_
          refine n_then ?_
          refine x_if rfl ?_ ?_
          · intro c6
            have ht : ¬ r.2.2.1 = true := by simpa using c6
            rw [if_neg ht] at hst1
            rw [svGo_stop (by omega) (by rw [hst1]), hst1] at hgo
            have hfin := hgo
            refine x_seq ?_
            refine x_region ?_
            refine s_val rfl (v_move rfl) ?_
            refine s_val rfl (v_fieldAddr rfl Tryz.underlying90 rfl Tryz.sizeOf3 rfl (by first | exact Nat.zero_add _ | rfl)) ?_
            refine s_do0 (d_store Tryz.sizeOf3 rfl rfl rfl (Nat.le_of_ble_eq_true rfl) SetL.eq) ?_
            rintro _ _ rfl
            refine x_nil ?_
            refine n_then ?_
            refine x_exit ?_
            refine e_then ?_
            refine e_block_ne rfl ?_
            refine e_then ?_
            refine e_then ?_
            refine e_block ?_
            refine n_then ?_
            refine mid_intro ⟨fx, dx, tkS fx pg sx, px, cx, nx, bx, r.2.2.2⟩ ?_ ?_ ?_
            · first
                | exact hfin
                | (have h0 : n - i = 0 := by omega
                   rw [h0] at hgo; exact hgo)
            · repeat (first | exact sub_nil | refine sub_cons rfl ?_)
            · exact inferInstance
          · intro c6
            have ht : r.2.2.1 = true := by simpa using c6
            rw [if_pos ht] at hst1
            have hdo := doR_ok (tx := tx) (pg := pg) (port := port) (l := r.2.1) hps hF hd
            refine x_skip ?_
            refine n_then ?_
            refine x_seq ?_
            refine x_region ?_
            refine s_val rfl (v_fieldAddr rfl Tryz.underlying90 rfl Tryz.sizeOf3 rfl (by first | exact Nat.zero_add _ | rfl)) ?_
            refine s_val rfl (v_load Tryz.isAgg3 rfl (cell_own rfl)) ?_
            refine s_val rfl (v_add rfl rfl (by rw [w64 (by omega)]; omega : IntKind.wrap .i64 ((cx : Int) + 1) = ((cx + 1 : Nat) : Int))) ?_
            refine s_val rfl (v_fieldAddr rfl Tryz.underlying90 rfl Tryz.sizeOf3 rfl (by first | exact Nat.zero_add _ | rfl)) ?_
            refine s_do0 (d_store Tryz.sizeOf3 rfl rfl rfl (Nat.le_of_ble_eq_true rfl) SetL.eq) ?_
            rintro _ _ rfl
            refine x_nil ?_
            refine n_then ?_
            refine x_seq ?_
            refine x_region ?_
            refine s_val rfl (v_fieldAddr rfl Tryz.underlying90 rfl Tryz.sizeOf3 rfl (by first | exact Nat.zero_add _ | rfl)) ?_
            refine s_val rfl (v_load Tryz.isAgg3 rfl (cell_own rfl)) ?_
            refine s_val rfl (v_move rfl) ?_
            refine s_val rfl (v_len_slice Tryz.underlying43 rfl) ?_
            refine s_val rfl (v_add rfl rfl (by rw [w64 (by omega)]; omega : IntKind.wrap .i64 ((nx : Int) + (r.2.1.length : Int)) = ((nx + r.2.1.length : Nat) : Int))) ?_
            refine s_val rfl (v_fieldAddr rfl Tryz.underlying90 rfl Tryz.sizeOf3 rfl (by first | exact Nat.zero_add _ | rfl)) ?_
            refine s_do0 (d_store Tryz.sizeOf3 rfl rfl rfl (Nat.le_of_ble_eq_true rfl) SetL.eq) ?_
            rintro _ _ rfl
            refine x_nil ?_
            refine n_then ?_
            refine x_seq ?_
            refine x_region ?_
            refine s_val rfl (v_move rfl) ?_
            refine s_val rfl (v_move rfl) ?_
            refine s_do rfl (d_callv5 (us := []) (cs := cd) rfl hV.calld rfl (hV.dos px fx dx r.2.1 a c _ hps hF hd hl9 hl8)) ?_
            rintro _ B_ ⟨rfl, hB_⟩
            obtain rfl := hB_.symm
            obtain ⟨y, hy⟩ : ∃ y, doR tx pg port px fx dx r.2.1 = y := ⟨_, rfl⟩
            rw [hy] at hdo hst1 ⊢
            have hym := hdo.m
            refine s_val rfl (v_move rfl) ?_
            refine s_val rfl (v_extract rfl rfl) ?_
            refine s_val rfl (v_extract rfl rfl) ?_
            refine s_val rfl (v_assign rfl) ?_
            refine s_val rfl (v_assign rfl) ?_
            refine x_nil ?_
            refine n_then ?_
            refine x_seq ?_
            refine x_region ?_
            refine s_val rfl (v_fieldAddr rfl Tryz.underlying90 rfl Tryz.sizeOf3 rfl (by first | exact Nat.zero_add _ | rfl)) ?_
            refine s_val rfl (v_load Tryz.isAgg3 rfl (cell_own rfl)) ?_
            refine s_val rfl (v_move rfl) ?_
            refine s_val rfl (v_add rfl rfl (by rw [w64 (by omega)]; omega : IntKind.wrap .i64 ((bx : Int) + (y.m : Int)) = ((bx + y.m : Nat) : Int))) ?_
            refine s_val rfl (v_fieldAddr rfl Tryz.underlying90 rfl Tryz.sizeOf3 rfl (by first | exact Nat.zero_add _ | rfl)) ?_
            refine s_do0 (d_store Tryz.sizeOf3 rfl rfl rfl (Nat.le_of_ble_eq_true rfl) SetL.eq) ?_
            rintro _ _ rfl
            refine x_nil ?_
            refine n_then ?_
            refine x_seq ?_
            refine x_region ?_
            refine s_val rfl (v_move rfl) ?_
            refine s_val rfl (v_move rfl) ?_
            refine s_val rfl (v_move rfl) ?_
            refine s_val rfl (v_move rfl) ?_
            refine s_do rfl (d_call4 Tryz.call36 rfl (qDone_spec W0 _ bq pv ps_ pm y.d y.fr pg h hdo.frs hdo.d (tkS fx pg sx) (tkS_ok hs) (r.1 : Nat) (y.t : Nat))) ?_
            rintro _ B_ ⟨rfl, hB_⟩
            obtain rfl := hB_.symm
            obtain ⟨z, hz⟩ : ∃ z, dnX y.fr pg y.d (tkS fx pg sx) (u32N (r.1 : Nat)) (u32N (y.t : Nat)) = z := ⟨_, rfl⟩
            rw [hz] at hst1 ⊢
            refine s_val rfl (v_fieldAddr rfl Tryz.underlying90 rfl Tryz.sizeOf3 rfl (by first | exact Nat.zero_add _ | rfl)) ?_
            refine s_do0 (d_store Tryz.sizeOf3 rfl rfl rfl (Nat.le_of_ble_eq_true rfl) SetL.eq) ?_
            rintro _ _ rfl
            refine x_nil ?_
            refine n_then ?_
            refine x_seq ?_
            refine x_region ?_
            refine s_val rfl (v_fieldAddr rfl Tryz.underlying90 rfl Tryz.sizeOf3 rfl (by first | exact Nat.zero_add _ | rfl)) ?_
            refine s_val rfl (v_load Tryz.isAgg3 rfl (cell_own rfl)) ?_
            refine s_val rfl (v_neq rfl rfl) ?_
            refine x_nil ?_
            refine n_then ?_
            refine x_if rfl ?_ ?_
            · intro c13
              have hzc : zB z.c = false := decide_eq_false c13
              rw [hzc] at hst1
              rw [svGo_stop (by omega) (by rw [hst1]), hst1] at hgo
              have hfin := hgo
              refine x_exit ?_
              refine e_block_ne rfl ?_
              refine e_then ?_
              refine e_then ?_
              refine e_block ?_
              refine n_then ?_
              refine mid_intro ⟨z.fr, z.d, z.s, y.ps, cx + 1, nx + r.2.1.length, bx + y.m, z.c⟩ ?_ ?_ ?_
              · first
                  | exact hfin
                  | (have h0 : n - i = 0 := by omega
                     rw [h0] at hgo; exact hgo)
              · repeat (first | exact sub_nil | refine sub_cons rfl ?_)
              · exact inferInstance
            · intro c13
              have hzc : zB z.c = true := decide_eq_true (Decidable.not_not.1 c13)
              rw [hzc] at hst1
              rw [svGo_go (by omega) (by rw [hst1]), hst1] at hgo
              rw [hst1] at hokn
              refine x_skip ?_
              refine n_block ?_
              refine n_then ?_
              refine x_region ?_
              refine s_val rfl (v_add rfl rfl (by first | exact w64 (by omega) | rfl)) ?_
              refine s_val rfl (v_move rfl) ?_
              refine x_nil ?_
              refine n_then ?_
              refine inv_intro (i + 1, ⟨z.fr, z.d, z.s, y.ps, cx + 1, nx + r.2.1.length, bx + y.m, z.c⟩) ?_ ?_ ?_ ?_
              · refine ⟨by omega, ?_, hokn.1, by show cx + 1 ≤ i + 1; omega, by show nx + r.2.1.length ≤ 9 * (i + 1); omega, by show bx + y.m ≤ 36 * (i + 1); omega⟩
                rw [show n - (i + 1) = n - i - 1 by omega]; exact hgo
              · omega
              · repeat (first | exact sub_nil | refine sub_cons rfl ?_)
              · exact inferInstance
      · intro c3
        refine x_exit ?_
        refine e_then ?_
        refine e_then ?_
        refine e_block ?_
        refine n_then ?_
        refine mid_intro ⟨fx, dx, sx, px, cx, nx, bx, wx⟩ ?_ ?_ ?_
        · first
            | exact hfin
            | (have h0 : n - i = 0 := by omega
               rw [h0] at hgo; exact hgo)
        · repeat (first | exact sub_nil | refine sub_cons rfl ?_)
        · exact inferInstance
  · intro x rfl
    refine x_seq ?_
    refine x_region ?_
    refine s_val rfl (v_loadAll Tryz.isAgg90 Tryz.sizeOf90 rfl rfl) ?_
    refine s_do0 (d_storeAll Tryz.sizeOf90 rfl rfl rfl rfl rfl) ?_
    rintro _ _ rfl
    refine x_nil ?_
    refine n_then ?_
    refine x_ret ?_
    refine r_scope ?_
    refine x_done (.inl rfl) (.cons (r_all Tryz.isAgg90 Tryz.sizeOf90 rfl rfl) .nil) ?_
    exact ⟨_, ⟨_, rfl, rfl, rfl⟩, inferInstance⟩
theorem serveN_spec (W0 : World) (R : List HP) (tx : Bool) (bq p bv pv bp bi ps_ pm : Nat) (pg : List Pl) (h : Pgs pg) (port : Int) (fm : FuncId) (cm : List Value) (fd : FuncId) (cd : List Value) (hV : SvF W0 tx pv ps_ pm pg (nicC p bv pv bp bi port) port fm cm fd cd)
    (fr : List Frm) (d : Nat) (sd sa su n last put : Nat) (on : Bool) (br : Int) (ps : List Prt) (hn : n ≤ 8) (hr : Rg3.ok ⟨sd, sa, su, n⟩) (len : Nat) (hx : SvOk len ⟨sd, sa, su, n⟩ ⟨fr, d, ⟨⟨sd, sa, su, n⟩, on, br, last, put⟩, ps, 0, 0, 0, 0⟩) :
    Spec Tryz.prog W0 116 [.pointer (some ⟨pv, 0, none⟩), .pointer (some ⟨bq, 0, none⟩), .func (.func fm) #[] cm.toArray, .func (.func fd) #[] cd.toArray]
      (pt bq (qO true ⟨⟨sd, sa, su, n⟩, on, br, last, put⟩) :: pt pv (viO ps_ pm d) :: stoH ps_ fr :: pt pm (gmO pg) :: portsH p ps :: pt bv (cob [.pointer (some ⟨pv, 0, none⟩)] 45) :: pt bp (cob [.pointer (some ⟨p, 0, none⟩)] 77) :: pt bi (cob [.int .i64 port] 3) :: R)
      (fun v B => ∃ y, y = svGo tx pg port n ⟨fr, d, ⟨⟨sd, sa, su, n⟩, on, br, last, put⟩, ps, 0, 0, 0, 0⟩ ∧ v = .agg (SvS.v y).toArray ∧ B = pt bq (qO true y.s) :: pt pv (viO ps_ pm y.d) :: stoH ps_ y.fr :: pt pm (gmO pg) :: portsH p y.ps :: R) :=
  spec_ent (B := pt bq (qO true ⟨⟨sd, sa, su, n⟩, on, br, last, put⟩) :: pt pv (viO ps_ pm d) :: stoH ps_ fr :: pt pm (gmO pg) :: kH 0 (nicC p bv pv bp bi port ps) :: R) (Ent.cons (Ent.cons (Ent.cons (Ent.cons (ent_shut (A := [_, _, _, _])))))) <|
  spec_post (serve_spec W0 R tx bq pv ps_ pm pg h _ port fm cm fd cd hV fr d sd sa su n last put on br ps hn hr len hx) fun v B hB => by
    obtain ⟨y, h1, h2, rfl⟩ := hB
    refine ⟨_, ⟨y, h1, h2, rfl⟩, Ent.cons (Ent.cons (Ent.cons (Ent.cons (ent_open.trans ?_))))⟩
    show Ent (portsH p y.ps :: pt bv (cob [.pointer (some ⟨pv, 0, none⟩)] 45) :: pt bp (cob [.pointer (some ⟨p, 0, none⟩)] 77) :: pt bi (cob [.int .i64 port] 3) :: R) (portsH p y.ps :: R)
    exact inferInstance
theorem nicTx_spec (W0 : World) (R : List HP) (bq p pv ps_ pm : Nat) (pg : List Pl) (h : Pgs pg) (port : Int)
    (fr : List Frm) (d : Nat) (sd sa su n last put : Nat) (on : Bool) (br : Int) (ps : List Prt) (hn : n ≤ 8) (hr : Rg3.ok ⟨sd, sa, su, n⟩) (len : Nat) (hx : SvOk len ⟨sd, sa, su, n⟩ ⟨fr, d, ⟨⟨sd, sa, su, n⟩, on, br, last, put⟩, ps, 0, 0, 0, 0⟩) :
    Spec Tryz.prog W0 42 [.pointer (some ⟨pv, 0, none⟩), .pointer (some ⟨bq, 0, none⟩), .pointer (some ⟨p, 0, none⟩), .int .i64 port]
      (pt bq (qO true ⟨⟨sd, sa, su, n⟩, on, br, last, put⟩) :: pt pv (viO ps_ pm d) :: stoH ps_ fr :: pt pm (gmO pg) :: portsH p ps :: R)
      (fun v B => ∃ y, y = svGo true pg port n ⟨fr, d, ⟨⟨sd, sa, su, n⟩, on, br, last, put⟩, ps, 0, 0, 0, 0⟩ ∧ v = .agg (SvS.v y).toArray ∧ B = pt bq (qO true y.s) :: pt pv (viO ps_ pm y.d) :: stoH ps_ y.fr :: pt pm (gmO pg) :: portsH p y.ps :: R) := by
  refine spec_body Tryz.func42 Tryz.ntmps42 rfl rfl ?_
  refine x_seq ?_
  refine x_region ?_
  refine s_do rfl (d_box rfl rfl) ?_
  rintro _ _ ⟨bv, rfl, rfl⟩
  refine s_do rfl (d_box rfl rfl) ?_
  rintro _ _ ⟨bp, rfl, rfl⟩
  refine s_do rfl (d_box rfl rfl) ?_
  rintro _ _ ⟨bi, rfl, rfl⟩
  refine s_do rfl (d_allocA Tryz.zeroValue90) ?_
  rintro _ _ ⟨b8, rfl, rfl⟩
  refine x_nil ?_
  refine n_then ?_
  refine x_seq ?_
  refine x_region ?_
  refine s_val rfl (v_assign rfl) ?_
  refine x_nil ?_
  refine n_then ?_
  refine x_seq ?_
  refine x_region ?_
  refine s_val rfl (v_load Tryz.isAgg45 rfl (cell_own rfl)) ?_
  refine s_val rfl (v_move rfl) ?_
  refine s_val rfl (v_move rfl) ?_
  refine s_val rfl (v_mkFunc rfl rfl) ?_
  refine s_do rfl (d_call8 Tryz.call116 rfl (serveN_spec W0 _ true bq p bv pv bp bi ps_ pm pg h port _ [] _ [.pointer (some ⟨bv, 0, none⟩), .pointer (some ⟨bp, 0, none⟩), .pointer (some ⟨bi, 0, none⟩)] (tx_svf W0 p bv pv bp bi ps_ pm pg h port) fr d sd sa su n last put on br ps hn hr len hx)) ?_
  rintro _ B_ ⟨y, hy, rfl, hB_⟩
  obtain rfl := hB_.symm
  refine s_do0 (d_storeAll Tryz.sizeOf90 rfl rfl rfl rfl rfl) ?_
  rintro _ _ rfl
  refine x_nil ?_
  refine n_then ?_
  refine x_ret ?_
  refine x_done (.inl rfl) (.cons (r_all Tryz.isAgg90 Tryz.sizeOf90 rfl rfl) .nil) ?_
  exact ⟨_, ⟨y, hy, rfl, rfl⟩, inferInstance⟩
theorem nicRx_spec (W0 : World) (R : List HP) (bq p pv ps_ pm : Nat) (pg : List Pl) (h : Pgs pg) (port : Int)
    (fr : List Frm) (d : Nat) (sd sa su n last put : Nat) (on : Bool) (br : Int) (ps : List Prt) (hn : n ≤ 8) (hr : Rg3.ok ⟨sd, sa, su, n⟩) (len : Nat) (hx : SvOk len ⟨sd, sa, su, n⟩ ⟨fr, d, ⟨⟨sd, sa, su, n⟩, on, br, last, put⟩, ps, 0, 0, 0, 0⟩) :
    Spec Tryz.prog W0 43 [.pointer (some ⟨pv, 0, none⟩), .pointer (some ⟨bq, 0, none⟩), .pointer (some ⟨p, 0, none⟩), .int .i64 port]
      (pt bq (qO true ⟨⟨sd, sa, su, n⟩, on, br, last, put⟩) :: pt pv (viO ps_ pm d) :: stoH ps_ fr :: pt pm (gmO pg) :: portsH p ps :: R)
      (fun v B => ∃ y, y = svGo false pg port n ⟨fr, d, ⟨⟨sd, sa, su, n⟩, on, br, last, put⟩, ps, 0, 0, 0, 0⟩ ∧ v = .agg (SvS.v y).toArray ∧ B = pt bq (qO true y.s) :: pt pv (viO ps_ pm y.d) :: stoH ps_ y.fr :: pt pm (gmO pg) :: portsH p y.ps :: R) := by
  refine spec_body Tryz.func43 Tryz.ntmps43 rfl rfl ?_
  refine x_seq ?_
  refine x_region ?_
  refine s_do rfl (d_box rfl rfl) ?_
  rintro _ _ ⟨bv, rfl, rfl⟩
  refine s_do rfl (d_box rfl rfl) ?_
  rintro _ _ ⟨bp, rfl, rfl⟩
  refine s_do rfl (d_box rfl rfl) ?_
  rintro _ _ ⟨bi, rfl, rfl⟩
  refine s_do rfl (d_allocA Tryz.zeroValue90) ?_
  rintro _ _ ⟨b8, rfl, rfl⟩
  refine x_nil ?_
  refine n_then ?_
  refine x_seq ?_
  refine x_region ?_
  refine s_val rfl (v_mkFunc rfl rfl) ?_
  refine s_val rfl (v_assign rfl) ?_
  refine x_nil ?_
  refine n_then ?_
  refine x_seq ?_
  refine x_region ?_
  refine s_val rfl (v_load Tryz.isAgg45 rfl (cell_own rfl)) ?_
  refine s_val rfl (v_move rfl) ?_
  refine s_val rfl (v_move rfl) ?_
  refine s_val rfl (v_mkFunc rfl rfl) ?_
  refine s_do rfl (d_call8 Tryz.call116 rfl (serveN_spec W0 _ false bq p bv pv bp bi ps_ pm pg h port _ [.pointer (some ⟨bp, 0, none⟩), .pointer (some ⟨bi, 0, none⟩)] _ [.pointer (some ⟨bp, 0, none⟩), .pointer (some ⟨bi, 0, none⟩), .pointer (some ⟨bv, 0, none⟩)] (rx_svf W0 p bv pv bp bi ps_ pm pg h port) fr d sd sa su n last put on br ps hn hr len hx)) ?_
  rintro _ B_ ⟨y, hy, rfl, hB_⟩
  obtain rfl := hB_.symm
  refine s_do0 (d_storeAll Tryz.sizeOf90 rfl rfl rfl rfl rfl) ?_
  rintro _ _ rfl
  refine x_nil ?_
  refine n_then ?_
  refine x_ret ?_
  refine x_done (.inl rfl) (.cons (r_all Tryz.isAgg90 Tryz.sizeOf90 rfl rfl) .nil) ?_
  exact ⟨_, ⟨y, hy, rfl, rfl⟩, inferInstance⟩
end Go.Proofs.YtechkfopkpkigaaGreat
namespace Go.Proofs.YtechkfopkpkigaaGreat
open Go.RowKit
set_option linter.unusedSimpArgs false
set_option linter.unusedVariables false
set_option maxRecDepth 20000
theorem rdSize_spec (W0 : World) (R : List HP) (p : Nat) (n : Int) : Spec Tryz.prog W0 99 [.int .i64 p, .int .i64 n] R (fun v B => v = .int .i64 (qSz p n) ∧ B = R) := by
  refine spec_body Tryz.func99 Tryz.ntmps99 rfl rfl ?_
  refine x_seq ?_
  refine x_region ?_
  refine s_val rfl (v_assign rfl) ?_
  refine x_nil ?_
  refine n_then ?_
  refine x_seq ?_
  refine x_seq ?_
  refine x_region ?_
  refine s_val rfl (v_move rfl) ?_
  refine s_do rfl (d_call Tryz.call176 rfl (rdSized_spec W0 _ n)) ?_
  rintro _ B_ ⟨rfl, hB_⟩
  obtain rfl := hB_.symm
  refine s_val rfl (v_not rfl) ?_
  refine x_nil ?_
  refine n_then ?_
  refine x_if rfl ?_ ?_
  · intro c1
    refine x_seq ?_
    refine x_region ?_
    refine s_val rfl (v_assign rfl) ?_
    refine x_nil ?_
    refine n_then ?_
    refine x_ret ?_
    refine r_then ?_
    refine x_done (.inl rfl) (.cons (r_tmp rfl) .nil) ?_
    refine ⟨_, ⟨?_, rfl⟩, inferInstance⟩
    have hz : ¬ szd n = true := c1
    refine congrArg (Value.int .i64) (Eq.symm ?_)
    rw [qSz, if_neg hz]
  · intro c1
    have hz : szd n = true := Decidable.not_not.1 c1
    have hn := szd_iff.1 hz
    refine x_skip ?_
    refine n_then ?_
    refine x_seq ?_
    refine x_seq ?_
    refine x_region ?_
    refine s_val rfl (v_move rfl) ?_
    refine x_nil ?_
    refine n_then ?_
    refine x_block ?_
    refine x_seq ?_
    refine x_region ?_
    refine s_val rfl (v_eql rfl rfl) ?_
    refine s_val rfl (v_assign rfl) ?_
    refine x_nil ?_
    refine n_then ?_
    refine x_if rfl ?_ ?_
    · intro c4
      refine x_seq ?_
      refine x_region ?_
      refine s_val rfl (v_move rfl) ?_
      refine s_val rfl (v_mul rfl rfl (w64 (by omega))) ?_
      refine s_val rfl (v_assign rfl) ?_
      refine x_nil ?_
      refine n_then ?_
      refine x_ret ?_
      refine r_block ?_
      refine r_then ?_
      refine x_done (.inl rfl) (.cons (r_tmp rfl) .nil) ?_
      refine ⟨_, ⟨?_, rfl⟩, inferInstance⟩
      refine congrArg (Value.int .i64) (Eq.symm ?_)
      rw [qSz, if_pos hz]
      (repeat' split) <;> first | rfl | omega
    · intro c4
      refine x_seq ?_
      refine x_region ?_
      refine s_val rfl (v_eql rfl rfl) ?_
      refine s_val rfl (v_assign rfl) ?_
      refine x_nil ?_
      refine n_then ?_
      refine x_if rfl ?_ ?_
      · intro c6
        refine x_seq ?_
        refine x_region ?_
        refine s_val rfl (v_move rfl) ?_
        refine s_val rfl (v_mul rfl rfl (w64 (by omega))) ?_
        refine s_val rfl (v_add rfl rfl (w64 (by omega))) ?_
        refine s_val rfl (v_assign rfl) ?_
        refine x_nil ?_
        refine n_then ?_
        refine x_ret ?_
        refine r_block ?_
        refine r_then ?_
        refine x_done (.inl rfl) (.cons (r_tmp rfl) .nil) ?_
        refine ⟨_, ⟨?_, rfl⟩, inferInstance⟩
        refine congrArg (Value.int .i64) (Eq.symm ?_)
        rw [qSz, if_pos hz]
        (repeat' split) <;> first | rfl | omega
      · intro c6
        refine x_seq ?_
        refine x_region ?_
        refine s_val rfl (v_eql rfl rfl) ?_
        refine s_val rfl (v_assign rfl) ?_
        refine x_nil ?_
        refine n_then ?_
        refine x_if rfl ?_ ?_
        · intro c8
          refine x_seq ?_
          refine x_region ?_
          refine s_val rfl (v_move rfl) ?_
          refine s_val rfl (v_mul rfl rfl (w64 (by omega))) ?_
          refine s_val rfl (v_add rfl rfl (w64 (by omega))) ?_
          refine s_val rfl (v_assign rfl) ?_
          refine x_nil ?_
          refine n_then ?_
          refine x_ret ?_
          refine r_block ?_
          refine r_then ?_
          refine x_done (.inl rfl) (.cons (r_tmp rfl) .nil) ?_
          refine ⟨_, ⟨?_, rfl⟩, inferInstance⟩
          refine congrArg (Value.int .i64) (Eq.symm ?_)
          rw [qSz, if_pos hz]
          (repeat' split) <;> first | rfl | omega
        · intro c8
          refine x_skip ?_
          refine n_block ?_
          refine n_then ?_
          refine x_seq ?_
          refine x_region ?_
          refine s_val rfl (v_assign rfl) ?_
          refine x_nil ?_
          refine n_then ?_
          refine x_ret ?_
          refine x_done (.inl rfl) (.cons (r_tmp rfl) .nil) ?_
          refine ⟨_, ⟨?_, rfl⟩, inferInstance⟩
          refine congrArg (Value.int .i64) (Eq.symm ?_)
          rw [qSz, if_pos hz]
          (repeat' split) <;> first | rfl | omega
abbrev rqO (s : QS) : Obj := cob (qsV s) 63
theorem fit_rgt {len : Nat} {pg : List Pl} {r : Rg3} (h : fitB len pg r = true) : rgtB r = true ∧ ownB len pg r.desc (qSz 0 r.n) = true ∧ ownB len pg r.avail (qSz 1 r.n) = true ∧ ownB len pg r.used (qSz 2 r.n) = true := by
  simp only [fitB, Bool.and_eq_true] at h
  exact ⟨h.2, h.1.1.1, h.1.1.2, h.1.2⟩
theorem rqLay_spec (W0 : World) (R : List HP) (b qv qs qm d : Nat) (fr : List Frm) (pg : List Pl) (h : Pgs pg) (s : QS) (r : Rg3) (hr : r.ok) (hf : fitB fr.length pg r = true) :
    Spec Tryz.prog W0 31 [.pointer (some ⟨b, 0, none⟩), .pointer (some ⟨qv, 0, none⟩), .agg (rgV r).toArray] (pt b (rqO s) :: rvwW qv qs qm d fr pg R)
      (fun v B => v = .int .i64 0 ∧ B = pt b (rqO ⟨r, true, 0, 0, 0⟩) :: rvwW qv qs qm d fr pg R) := by
  obtain ⟨f1, f2, f3, f4⟩ := fit_rgt hf
  refine spec_body Tryz.func31 Tryz.ntmps31 rfl rfl ?_
  refine x_seq ?_
  refine x_region ?_
  refine s_do rfl (d_boxA rfl) ?_
  rintro _ _ ⟨b1, rfl, rfl⟩
  refine s_val rfl (v_assign rfl) ?_
  refine x_nil ?_
  refine n_then ?_
  refine x_seq ?_
  refine x_seq ?_
  refine x_draw [(b1, 0, _)] 33 mixed rfl (sc_own sc_end) (fun hS => ?_)
  refine d_take 0 rfl rfl (by kernel_rfl) (by kernel_rfl) (by kernel_rfl) rfl hS (v_loadAgg Tryz.isAgg55 Tryz.sizeOf55 rfl (cells_sc (k := 0) rfl) rfl) ?_
  refine d_one 1 (by kernel_rfl) rfl rfl (d_call Tryz.call97 rfl (rdRight_spec W0 _ r)) rfl ?_; clear hS
  rintro _ B_ ⟨rfl, hB_⟩
  obtain rfl := hB_.symm
  refine ⟨(sc_own sc_end), fun hS => ?_⟩
  refine d_take 2 rfl rfl (by kernel_rfl) (by kernel_rfl) (by kernel_rfl) rfl hS (v_not rfl) ?_
  refine d_take 3 rfl rfl (by kernel_rfl) (by kernel_rfl) (by kernel_rfl) rfl hS (v_move rfl) ?_
  refine x_split (t := 10) rfl ?_ ?_
  · intro g1_4
    exact absurd f1 g1_4
  · intro g1_4
    refine d_take 4 rfl rfl (by kernel_rfl) (by kernel_rfl) (by kernel_rfl) rfl hS (v_move rfl) ?_
    refine d_take 5 rfl rfl (by kernel_rfl) (by kernel_rfl) (by kernel_rfl) rfl hS (v_fieldAddr rfl Tryz.underlying55 rfl Tryz.sizeOf53 rfl (by first | exact Nat.zero_add _ | rfl)) ?_
    refine d_take 6 rfl rfl (by kernel_rfl) (by kernel_rfl) (by kernel_rfl) rfl hS (v_load Tryz.isAgg53 rfl (cell_sc0 (k := 0) rfl rfl)) ?_
    refine d_take 7 rfl rfl (by kernel_rfl) (by kernel_rfl) (by kernel_rfl) rfl hS (v_fieldAddr rfl Tryz.underlying55 rfl Tryz.sizeOf3 rfl (by first | exact Nat.zero_add _ | rfl)) ?_
    refine d_take 8 rfl rfl (by kernel_rfl) (by kernel_rfl) (by kernel_rfl) rfl hS (v_load Tryz.isAgg3 rfl (cell_sc0 (k := 0) rfl rfl)) ?_
    refine d_one 9 (by kernel_rfl) rfl rfl (d_call Tryz.call99 rfl (rdSize_spec W0 _ 0 r.n)) rfl ?_; clear hS
    rintro _ B_ ⟨rfl, hB_⟩
    obtain rfl := hB_.symm
    refine ⟨(sc_own sc_end), fun hS => ?_⟩
    refine d_one 10 (by kernel_rfl) rfl rfl (d_call3 Tryz.call98 rfl (rvOwn_spec W0 _ qv qs qm d fr pg h r.desc hr.desc (qSz 0 r.n))) rfl ?_; clear hS
    rintro _ B_ ⟨rfl, hB_⟩
    obtain rfl := hB_.symm
    refine ⟨(sc_own sc_end), fun hS => ?_⟩
    refine d_take 11 rfl rfl (by kernel_rfl) (by kernel_rfl) (by kernel_rfl) rfl hS (v_not rfl) ?_
    refine d_take 12 rfl rfl (by kernel_rfl) (by kernel_rfl) (by kernel_rfl) rfl hS (v_pick_f rfl rfl) ?_
    refine d_take 13 rfl rfl (by kernel_rfl) (by kernel_rfl) (by kernel_rfl) rfl hS (v_move rfl) ?_
    refine x_split (t := 20) rfl ?_ ?_
    · intro g1_14
      exact absurd f2 g1_14
    · intro g1_14
      refine d_take 14 rfl rfl (by kernel_rfl) (by kernel_rfl) (by kernel_rfl) rfl hS (v_move rfl) ?_
      refine d_take 15 rfl rfl (by kernel_rfl) (by kernel_rfl) (by kernel_rfl) rfl hS (v_fieldAddr rfl Tryz.underlying55 rfl Tryz.sizeOf53 rfl (by first | exact Nat.zero_add _ | rfl)) ?_
      refine d_take 16 rfl rfl (by kernel_rfl) (by kernel_rfl) (by kernel_rfl) rfl hS (v_load Tryz.isAgg53 rfl (cell_sc0 (k := 0) rfl rfl)) ?_
      refine d_take 17 rfl rfl (by kernel_rfl) (by kernel_rfl) (by kernel_rfl) rfl hS (v_fieldAddr rfl Tryz.underlying55 rfl Tryz.sizeOf3 rfl (by first | exact Nat.zero_add _ | rfl)) ?_
      refine d_take 18 rfl rfl (by kernel_rfl) (by kernel_rfl) (by kernel_rfl) rfl hS (v_load Tryz.isAgg3 rfl (cell_sc0 (k := 0) rfl rfl)) ?_
      refine d_one 19 (by kernel_rfl) rfl rfl (d_call Tryz.call99 rfl (rdSize_spec W0 _ 1 r.n)) rfl ?_; clear hS
      rintro _ B_ ⟨rfl, hB_⟩
      obtain rfl := hB_.symm
      refine ⟨(sc_own sc_end), fun hS => ?_⟩
      refine d_one 20 (by kernel_rfl) rfl rfl (d_call3 Tryz.call98 rfl (rvOwn_spec W0 _ qv qs qm d fr pg h r.avail hr.avail (qSz 1 r.n))) rfl ?_; clear hS
      rintro _ B_ ⟨rfl, hB_⟩
      obtain rfl := hB_.symm
      refine ⟨(sc_own sc_end), fun hS => ?_⟩
      refine d_take 21 rfl rfl (by kernel_rfl) (by kernel_rfl) (by kernel_rfl) rfl hS (v_not rfl) ?_
      refine d_take 22 rfl rfl (by kernel_rfl) (by kernel_rfl) (by kernel_rfl) rfl hS (v_pick_f rfl rfl) ?_
      refine d_take 23 rfl rfl (by kernel_rfl) (by kernel_rfl) (by kernel_rfl) rfl hS (v_move rfl) ?_
      refine x_split (t := 30) rfl ?_ ?_
      · intro g1_24
        exact absurd f3 g1_24
      · intro g1_24
        refine d_take 24 rfl rfl (by kernel_rfl) (by kernel_rfl) (by kernel_rfl) rfl hS (v_move rfl) ?_
        refine d_take 25 rfl rfl (by kernel_rfl) (by kernel_rfl) (by kernel_rfl) rfl hS (v_fieldAddr rfl Tryz.underlying55 rfl Tryz.sizeOf53 rfl (by first | exact Nat.zero_add _ | rfl)) ?_
        refine d_take 26 rfl rfl (by kernel_rfl) (by kernel_rfl) (by kernel_rfl) rfl hS (v_load Tryz.isAgg53 rfl (cell_sc0 (k := 0) rfl rfl)) ?_
        refine d_take 27 rfl rfl (by kernel_rfl) (by kernel_rfl) (by kernel_rfl) rfl hS (v_fieldAddr rfl Tryz.underlying55 rfl Tryz.sizeOf3 rfl (by first | exact Nat.zero_add _ | rfl)) ?_
        refine d_take 28 rfl rfl (by kernel_rfl) (by kernel_rfl) (by kernel_rfl) rfl hS (v_load Tryz.isAgg3 rfl (cell_sc0 (k := 0) rfl rfl)) ?_
        refine d_one 29 (by kernel_rfl) rfl rfl (d_call Tryz.call99 rfl (rdSize_spec W0 _ 2 r.n)) rfl ?_; clear hS
        rintro _ B_ ⟨rfl, hB_⟩
        obtain rfl := hB_.symm
        refine ⟨(sc_own sc_end), fun hS => ?_⟩
        refine d_one 30 (by kernel_rfl) rfl rfl (d_call3 Tryz.call98 rfl (rvOwn_spec W0 _ qv qs qm d fr pg h r.used hr.used (qSz 2 r.n))) rfl ?_; clear hS
        rintro _ B_ ⟨rfl, hB_⟩
        obtain rfl := hB_.symm
        refine ⟨(sc_own sc_end), fun hS => ?_⟩
        refine d_take 31 rfl rfl (by kernel_rfl) (by kernel_rfl) (by kernel_rfl) rfl hS (v_not rfl) ?_
        refine d_take 32 rfl rfl (by kernel_rfl) (by kernel_rfl) (by kernel_rfl) rfl hS (v_pick_f rfl rfl) ?_
        refine d_done (by kernel_rfl) ?_; clear hS
        refine n_then ?_
        refine x_if rfl ?_ ?_
        · intro c1
          exact absurd f4 c1
        · intro c1
          refine x_skip ?_
          refine n_then ?_
          refine x_seq ?_
          refine x_region ?_
          refine s_val rfl (v_move rfl) ?_
          refine s_val rfl (v_loadAll Tryz.isAgg55 Tryz.sizeOf55 rfl rfl) ?_
          refine s_val rfl (v_build Tryz.underlying59 Tryz.zeroValue59 (sized_cons Tryz.sizeOf55 (sized_cons Tryz.sizeOf4 (sized_cons Tryz.sizeOf3 (sized_cons Tryz.sizeOf3 (sized_cons Tryz.sizeOf3 sized_nil))))) (fil_agg rfl Tryz.sizeOf55 rfl rfl (Nat.le_of_ble_eq_true rfl) SetRL.eq (fil_scal rfl Tryz.sizeOf4 rfl rfl (Nat.le_of_ble_eq_true rfl) SetL.eq fil_nil))) ?_
          refine s_val rfl (v_nilCheck rfl) ?_
          refine s_val rfl (v_fieldAddr rfl Tryz.underlying63 rfl Tryz.sizeOf59 rfl (by first | exact Nat.zero_add _ | rfl)) ?_
          refine s_do0 (d_storeAgg Tryz.sizeOf59 rfl rfl rfl rfl (Nat.le_of_ble_eq_true rfl) SetRL.eq) ?_
          rintro _ _ rfl
          refine x_nil ?_
          refine n_then ?_
          refine x_seq ?_
          refine x_region ?_
          refine s_val rfl (v_assign rfl) ?_
          refine x_nil ?_
          refine n_then ?_
          refine x_ret ?_
          refine x_done (.inl rfl) (.cons (r_tmp rfl) .nil) ?_
          exact ⟨_, ⟨rfl, rfl⟩, inferInstance⟩
end Go.Proofs.YtechkfopkpkigaaGreat
namespace Go.Proofs.YtechkfopkpkigaaGreat
open Go.RowKit
set_option linter.unusedSimpArgs false
set_option linter.unusedVariables false
set_option maxRecDepth 20000
theorem lies27_spec (W0 : World) (R : List HP) : Spec Tryz.prog W0 114 [] R (fun v B => v = .agg (rgV ⟨0, 128, 192, ((4 : Nat) : Int)⟩).toArray ∧ B = R) := by
  refine spec_body Tryz.func114 Tryz.ntmps114 rfl rfl ?_
  refine x_seq ?_
  refine x_region ?_
  refine s_do rfl (d_allocA Tryz.zeroValue55) ?_
  rintro _ _ ⟨b1, rfl, rfl⟩
  refine x_nil ?_
  refine n_then ?_
  refine x_seq ?_
  refine x_region ?_
  refine s_val rfl (v_build Tryz.underlying55 Tryz.zeroValue55 (sized_cons Tryz.sizeOf53 (sized_cons Tryz.sizeOf53 (sized_cons Tryz.sizeOf53 (sized_cons Tryz.sizeOf3 sized_nil)))) (fil_scal rfl Tryz.sizeOf53 rfl rfl (Nat.le_of_ble_eq_true rfl) SetL.eq (fil_scal rfl Tryz.sizeOf53 rfl rfl (Nat.le_of_ble_eq_true rfl) SetL.eq (fil_scal rfl Tryz.sizeOf53 rfl rfl (Nat.le_of_ble_eq_true rfl) SetL.eq (fil_scal rfl Tryz.sizeOf3 rfl rfl (Nat.le_of_ble_eq_true rfl) SetL.eq fil_nil))))) ?_
  refine s_do0 (d_storeAll Tryz.sizeOf55 rfl rfl rfl rfl rfl) ?_
  rintro _ _ rfl
  refine x_nil ?_
  refine n_then ?_
  refine x_ret ?_
  refine x_done (.inl rfl) (.cons (r_all Tryz.isAgg55 Tryz.sizeOf55 rfl rfl) .nil) ?_
  exact ⟨_, ⟨rfl, rfl⟩, inferInstance⟩
abbrev Bts := Option Addr × Nat × List Nat
@[reducible] def btV (y : Bts) : List Value := [.slice y.1 y.2.2.length y.2.1]
structure Gst where
  al : Option Addr
  cl : Nat
  L : List Dsc
  ah : Option Addr
  ch : Nat
  H : List Nat
  aa : Option Addr
  ca : Nat
  A : List Nat
  ab : Option Addr
  cb : Nat
  B : List Bts
  p : Nat
@[reducible] def gstV (g : Gst) : List Value := [.slice g.al g.L.length g.cl, .slice g.ah g.H.length g.ch, .slice g.aa g.A.length g.ca, .slice g.ab g.B.length g.cb, .int .u32 g.p]
structure GOk (S : World → Prop) (g : Gst) : Prop where
  l : SlA S g.al 4 dsV g.L
  lo : ∀ d ∈ g.L, d.ok
  h : SlA S g.ah 1 (fun x => [bV x]) g.H
  ho : By g.H
  a : SlA S g.aa 1 (fun x => [wV x]) g.A
  ao : ∀ x ∈ g.A, x < 4294967296
  b : SlA S g.ab 1 btV g.B
  bo : ∀ y ∈ g.B, SlA S y.1 1 (fun x => [bV x]) y.2.2 ∧ By y.2.2 ∧ y.2.2.length < 9223372036854775808
  p : g.p < 4294967296
  n : g.L.length < 9223372036854775808 ∧ g.H.length < 9223372036854775808 ∧ g.A.length < 9223372036854775808 ∧ g.B.length < 9223372036854775808
def mgA (pg : List Pl) (g : Gst) : Nat → List Frm × Nat
  | 0 => (List.replicate 8 zeros, 0)
  | i + 1 => (wrF (mgA pg g i).1 pg (g.A.getD i 0) (g.B.getD i (none, 0, [])).2.2, wrE (mgA pg g i).1 pg (g.A.getD i 0) (mgA pg g i).2 (g.B.getD i (none, 0, [])).2.2.length)
def mgN (g : Gst) : Nat := min (min g.B.length g.A.length) 20
def mgD (pg : List Pl) (g : Gst) : Nat → List Frm × Nat
  | 0 => mgA pg g (mgN g)
  | i + 1 => (wrF (mgD pg g i).1 pg (16 * i) (putD (g.L.getD i zD)), wrE (mgD pg g i).1 pg (16 * i) (mgD pg g i).2 16)
def mgH (pg : List Pl) (g : Gst) : Nat → List Frm × Nat
  | 0 => mgD pg g (min g.L.length 8)
  | i + 1 => (vsvF (mgH pg g i).1 pg (132 + 4 * i) 4 (g.H.getD i 0), vsvD (mgH pg g i).1 pg (132 + 4 * i) 4 (mgH pg g i).2)
def mgP (pg : List Pl) (g : Gst) : List Frm × Nat := (vsvF (mgH pg g (min g.H.length 4)).1 pg 128 4 g.p, vsvD (mgH pg g (min g.H.length 4)).1 pg 128 4 (mgH pg g (min g.H.length 4)).2)
def mk27 (g : Gst) : List Frm × Nat := mgP (pg23 8) g
def Mem8 (x : List Frm × Nat) : Prop := Frs x.1 ∧ x.1.length = 8 ∧ x.2 < 4096
theorem mgA_ok (pg : List Pl) (g : Gst) : ∀ i, Mem8 (mgA pg g i)
  | 0 => ⟨Frs.new 8, by simp [mgA], by simp [mgA]⟩
  | i + 1 => by
    obtain ⟨h1, h2, h3⟩ := mgA_ok pg g i
    exact ⟨(wrF_ok h1).1, (wrF_ok h1).2.trans h2, wrE_lt h3⟩
theorem mgD_ok (pg : List Pl) (g : Gst) : ∀ i, Mem8 (mgD pg g i)
  | 0 => mgA_ok pg g _
  | i + 1 => by
    obtain ⟨h1, h2, h3⟩ := mgD_ok pg g i
    exact ⟨(wrF_ok h1).1, (wrF_ok h1).2.trans h2, wrE_lt h3⟩
theorem mgH_ok (pg : List Pl) (g : Gst) : ∀ i, Mem8 (mgH pg g i)
  | 0 => mgD_ok pg g _
  | i + 1 => by
    obtain ⟨h1, h2, h3⟩ := mgH_ok pg g i
    exact ⟨(vsvF_ok h1).1, (vsvF_ok h1).2.trans h2, vsvD_lt h3⟩
theorem mgP_ok (pg : List Pl) (g : Gst) : Mem8 (mgP pg g) := by
  obtain ⟨h1, h2, h3⟩ := mgH_ok pg g (min g.H.length 4)
  exact ⟨(vsvF_ok h1).1, (vsvF_ok h1).2.trans h2, vsvD_lt h3⟩
theorem mk27_ok (g : Gst) : Mem8 (mk27 g) := mgP_ok _ _
@[reducible] def r27 : Rg3 := ⟨0, 128, 192, ((4 : Nat) : Int)⟩
@[reducible] def q27 : QS := ⟨⟨0, 128, 192, ((4 : Nat) : Int)⟩, true, 0, 0, 0⟩
theorem made27_spec (W0 : World) (R : List HP) (g : Gst) (hg : GOk (OwnP W0 R) g) (hfit : fitB 8 (pg23 8) ⟨0, 128, 192, ((4 : Nat) : Int)⟩ = true) :
    Spec Tryz.prog W0 40 [.agg (gstV g).toArray] R
      (fun v B => ∃ pv ps pm qv qs qm bq br, v = .tuple #[.pointer (some ⟨pv, 0, none⟩), .pointer (some ⟨bq, 0, none⟩), .pointer (some ⟨qv, 0, none⟩), .pointer (some ⟨br, 0, none⟩)] ∧
        B = pt bq (qO true q27) :: pt br (rqO q27) :: prH pv ps pm qv qs qm (mk27 g).2 (mk27 g).1 (pg23 8) R) := by
  obtain ⟨al, cl, L, ah, ch, H, aa, ca, A, ab, cb, B, p⟩ := g
  obtain ⟨hgl, hglo, hgh, hgho, hga, hgao, hgb, hgbo, hgp, hgn1, hgn2, hgn3, hgn4⟩ := hg
  dsimp only at hgl hglo hgh hgho hga hgao hgb hgbo hgp hgn1 hgn2 hgn3 hgn4
  obtain ⟨g, hg0⟩ : ∃ g, g = (⟨al, cl, L, ah, ch, H, aa, ca, A, ab, cb, B, p⟩ : Gst) := ⟨_, rfl⟩
  dsimp only [gstV]
  rw [← hg0]
  have hgA : g.A = A := by rw [hg0]
  have hgB : g.B = B := by rw [hg0]
  have hgL : g.L = L := by rw [hg0]
  have hgH : g.H = H := by rw [hg0]
  have hgP : g.p = p := by rw [hg0]
  refine spec_body Tryz.func40 Tryz.ntmps40 rfl rfl ?_
  refine x_seq ?_
  refine x_region ?_
  refine s_do rfl (d_boxA rfl) ?_
  rintro _ _ ⟨b1, rfl, rfl⟩
  refine s_val rfl (v_assign rfl) ?_
  refine s_val rfl (v_assign rfl) ?_
  refine s_val rfl (v_assign rfl) ?_
  refine s_val rfl (v_assign rfl) ?_
  refine x_nil ?_
  refine n_then ?_
  refine x_seq ?_
  refine x_region ?_
  refine s_do rfl (d_call Tryz.call85 rfl (frNew_spec W0 _ 8 (by decide))) ?_
  rintro _ B_ ⟨ps, rfl, hB_⟩
  obtain rfl := hB_.symm
  refine s_val rfl (v_move rfl) ?_
  refine s_val rfl (v_extract rfl rfl) ?_
  refine s_val rfl (v_extract rfl rfl) ?_
  refine s_val rfl (v_assign rfl) ?_
  refine s_val rfl (v_assign rfl) ?_
  refine x_nil ?_
  refine n_then ?_
  refine x_seq ?_
  refine x_region ?_
  refine s_do rfl (d_call Tryz.call86 rfl (gmNew_spec W0 _)) ?_
  rintro _ B_ ⟨pm, rfl, hB_⟩
  obtain rfl := hB_.symm
  refine s_val rfl (v_assign rfl) ?_
  refine x_nil ?_
  refine n_then ?_
  refine x_seq ?_
  refine x_region ?_
  refine s_do rfl (d_call Tryz.call87 rfl (rfNew_spec W0 _ 8 (by decide))) ?_
  rintro _ B_ ⟨qs, rfl, hB_⟩
  obtain rfl := hB_.symm
  refine s_val rfl (v_move rfl) ?_
  refine s_val rfl (v_extract rfl rfl) ?_
  refine s_val rfl (v_extract rfl rfl) ?_
  refine s_val rfl (v_assign rfl) ?_
  refine s_val rfl (v_assign rfl) ?_
  refine x_nil ?_
  refine n_then ?_
  refine x_seq ?_
  refine x_region ?_
  refine s_val rfl (v_build Tryz.underlying159 Tryz.zeroValue159 (sized_cons Tryz.sizeOf117 (sized_cons Tryz.sizeOf157 sized_nil)) fil_nil) ?_
  refine s_do rfl (d_boxA rfl) ?_
  rintro _ _ ⟨qm, rfl, rfl⟩
  refine s_val rfl (v_assign rfl) ?_
  refine x_nil ?_
  refine n_then ?_
  refine x_seq ?_
  refine x_seq ?_
  refine run_pt (b := qm) (o' := rgO (List.replicate 12 (0, 0))) rfl ?_
  refine x_region ?_
  refine s_val rfl (v_assign rfl) ?_
  refine x_nil ?_
  refine n_then ?_
  refine x_block ?_
  refine x_loop (fun i : Nat => i ≤ 8) (fun i => [(1, .pointer (some ⟨b1, 0, none⟩)), (6, .pointer (some ⟨ps, 0, none⟩)), (8, .pointer (some ⟨pm, 0, none⟩)), (9, .pointer (some ⟨qs, 0, none⟩)), (11, .pointer (some ⟨qm, 0, none⟩)), (12, .int .i64 i)]) (fun i => pt b1 (cob [.slice al L.length cl, .slice ah H.length ch, .slice aa A.length ca, .slice ab B.length cb, .int .u32 p] 87) :: pt qm (rgO (pg23 i)) :: rstoH qs (List.replicate 8 zeros) :: pt pm (gmO (pg23 i)) :: stoH ps (List.replicate 8 zeros) :: R) (fun i => 8 - i) 0 ?_ ?_ ?_ ?_
  · exact Nat.zero_le _
  · repeat (first | exact sub_nil | refine sub_cons rfl ?_)
  · simp only [pg23]; exact inferInstance
  · intro i hi
    have hP := pg23_ok i
    refine x_seq ?_
    refine x_seq ?_
    refine x_region ?_
    refine s_val rfl (v_move rfl) ?_
    refine s_val rfl (v_lss rfl rfl) ?_
    refine x_nil ?_
    refine n_then ?_
    refine x_if rfl ?_ ?_
    · intro c6
      refine x_skip ?_
      refine n_then ?_
      refine x_seq ?_
      refine x_block ?_
      refine x_seq ?_
      refine x_region ?_
      refine s_val rfl (v_move rfl) ?_
      refine s_val rfl (v_move rfl) ?_
      refine s_val rfl (v_move rfl) ?_
      refine s_val rfl (v_build Tryz.underlying156 Tryz.zeroValue156 (sized_cons Tryz.sizeOf3 (sized_cons Tryz.sizeOf3 sized_nil)) (fil_scal rfl Tryz.sizeOf3 rfl rfl (Nat.le_of_ble_eq_true rfl) SetL.eq (fil_scal rfl Tryz.sizeOf3 rfl rfl (Nat.le_of_ble_eq_true rfl) SetL.eq fil_nil))) ?_
      refine s_do rfl (d_call1 Tryz.call88 rfl (gmSet_spec W0 _ pm _ hP i ((i : Int), 3))) ?_
      rintro _ B_ ⟨rfl, hB_⟩
      obtain rfl := hB_.symm
      refine x_nil ?_
      refine n_then ?_
      refine x_region ?_
      refine s_val rfl (v_move rfl) ?_
      refine s_val rfl (v_move rfl) ?_
      refine s_val rfl (v_move rfl) ?_
      refine s_val rfl (v_build Tryz.underlying156 Tryz.zeroValue156 (sized_cons Tryz.sizeOf3 (sized_cons Tryz.sizeOf3 sized_nil)) (fil_scal rfl Tryz.sizeOf3 rfl rfl (Nat.le_of_ble_eq_true rfl) SetL.eq (fil_scal rfl Tryz.sizeOf3 rfl rfl (Nat.le_of_ble_eq_true rfl) SetL.eq fil_nil))) ?_
      refine s_do rfl (d_call1 Tryz.call89 rfl (rgSet_spec W0 _ qm _ hP i ((i : Int), 3))) ?_
      rintro _ B_ ⟨rfl, hB_⟩
      obtain rfl := hB_.symm
      refine x_nil ?_
      refine n_block ?_
      refine n_then ?_
      refine x_region ?_
      refine s_val rfl (v_move rfl) ?_
      refine s_val rfl (v_add rfl rfl (by first | exact w64 (by omega) | rfl)) ?_
      refine s_val rfl (v_assign rfl) ?_
      refine x_nil ?_
      refine n_then ?_
      refine inv_intro (i + 1) ?_ ?_ ?_ ?_
      · omega
      · omega
      · repeat (first | exact sub_nil | refine sub_cons rfl ?_)
      · simp only [pg23]; exact inferInstance
    · intro c6
      refine x_exit ?_
      refine e_then ?_
      refine e_then ?_
      refine e_block ?_
      refine n_then ?_
      refine x_seq ?_
      obtain rfl : i = 8 := by omega
      have hP := pg23_ok 8
      rw [show mk27 g = mgP (pg23 8) g from rfl]
      obtain ⟨pg, hpg⟩ : ∃ x, pg23 8 = x := ⟨_, rfl⟩
      rw [hpg] at hP hfit ⊢
      refine x_region ?_
      refine s_val rfl (v_move rfl) ?_
      refine s_val rfl (v_move rfl) ?_
      refine s_do rfl (d_call2 Tryz.call90 rfl (viNew_spec W0 _ ps pm _ _ hP (by decide))) ?_
      rintro _ B_ ⟨pv, rfl, hB_⟩
      obtain rfl := hB_.symm
      refine s_val rfl (v_move rfl) ?_
      refine s_val rfl (v_extract rfl rfl) ?_
      refine s_val rfl (v_extract rfl rfl) ?_
      refine s_val rfl (v_assign rfl) ?_
      refine s_val rfl (v_assign rfl) ?_
      refine x_nil ?_
      refine n_then ?_
      refine x_seq ?_
      refine x_seq ?_
      refine x_region ?_
      refine s_val rfl (v_move rfl) ?_
      refine s_val rfl (v_neq rfl rfl) ?_
      refine x_nil ?_
      refine n_then ?_
      refine x_if rfl ?_ ?_
      · intro c11
        exact absurd rfl c11
      · intro c11
        refine x_skip ?_
        refine n_then ?_
        refine x_seq ?_
        refine x_region ?_
        refine s_val rfl (v_move rfl) ?_
        refine s_val rfl (v_move rfl) ?_
        refine s_val rfl (v_build Tryz.underlying119 Tryz.zeroValue119 (sized_cons Tryz.sizeOf115 (sized_cons Tryz.sizeOf116 (sized_cons Tryz.sizeOf117 sized_nil))) (fil_scal rfl Tryz.sizeOf115 rfl rfl (Nat.le_of_ble_eq_true rfl) SetL.eq (fil_scal rfl Tryz.sizeOf116 rfl rfl (Nat.le_of_ble_eq_true rfl) SetL.eq fil_nil))) ?_
        refine s_do rfl (d_boxA rfl) ?_
        rintro _ _ ⟨qv, rfl, rfl⟩
        refine s_val rfl (v_assign rfl) ?_
        refine x_nil ?_
        refine n_then ?_
        refine x_cut (fun _ : Unit => True) (fun _ => [(1, .pointer (some ⟨b1, 0, none⟩)), (13, .pointer (some ⟨pv, 0, none⟩)), (15, .pointer (some ⟨qv, 0, none⟩))]) (fun _ => pt b1 (cob [.slice al L.length cl, .slice ah H.length ch, .slice aa A.length ca, .slice ab B.length cb, .int .u32 p] 87) :: prH pv ps pm qv qs qm (mgD pg g 0).2 (mgD pg g 0).1 pg R) ?_ ?_
        · skip
          refine x_seq ?_
          refine run_pt (b := qv) (o' := rvO qs qm 0) rfl ?_
          refine x_region ?_
          refine s_val rfl (v_assign rfl) ?_
          refine x_nil ?_
          refine n_then ?_
          refine x_block ?_
          refine x_loop (fun i : Nat => i ≤ mgN g) (fun i => [(1, .pointer (some ⟨b1, 0, none⟩)), (13, .pointer (some ⟨pv, 0, none⟩)), (15, .pointer (some ⟨qv, 0, none⟩)), (16, .int .i64 i)]) (fun i => pt b1 (cob [.slice al L.length cl, .slice ah H.length ch, .slice aa A.length ca, .slice ab B.length cb, .int .u32 p] 87) :: prH pv ps pm qv qs qm (mgA pg g i).2 (mgA pg g i).1 pg R) (fun i => 20 - i) 0 ?_ ?_ ?_ ?_
          · exact Nat.zero_le _
          · repeat (first | exact sub_nil | refine sub_cons rfl ?_)
          · simp only [mgA]; exact inferInstance
          · intro i hi
            obtain ⟨hF, hFl, hFd⟩ := mgA_ok pg g i
            rw [mgN, hgA, hgB] at hi
            refine x_seq ?_
            refine x_seq ?_
            refine x_region ?_
            refine s_val rfl (v_move rfl) ?_
            refine s_val rfl (v_fieldAddr rfl Tryz.underlying87 rfl Tryz.sizeOf85 rfl (by first | exact Nat.zero_add _ | rfl)) ?_
            refine s_val rfl (v_load Tryz.isAgg85 rfl (cell_own rfl)) ?_
            refine s_val rfl (v_len_slice Tryz.underlying85 rfl) ?_
            refine s_val rfl (v_lss rfl rfl) ?_
            refine s_val rfl (v_move rfl) ?_
            refine s_and rfl rfl rfl ?_ ?_
            · intro g15_6
              refine s_val rfl (v_move rfl) ?_
              refine s_yes rfl rfl ?_
              refine s_val rfl (v_fieldAddr rfl Tryz.underlying87 rfl Tryz.sizeOf84 rfl (by first | exact Nat.zero_add _ | rfl)) ?_
              refine s_yes rfl rfl ?_
              refine s_val rfl (v_load Tryz.isAgg84 rfl (cell_own rfl)) ?_
              refine s_yes rfl rfl ?_
              refine s_val rfl (v_len_slice Tryz.underlying84 rfl) ?_
              refine s_yes rfl rfl ?_
              refine s_val rfl (v_lss rfl rfl) ?_
              refine s_val rfl (v_pick_t rfl rfl) ?_
              refine s_val rfl (v_move rfl) ?_
              refine s_and rfl rfl rfl ?_ ?_
              · intro g15_13
                refine s_val rfl (v_move rfl) ?_
                refine s_yes rfl rfl ?_
                refine s_val rfl (v_lss rfl rfl) ?_
                refine s_val rfl (v_pick_t rfl rfl) ?_
                refine x_nil ?_
                refine n_then ?_
                refine x_if rfl ?_ ?_
                · intro c15
                  refine x_skip ?_
                  refine n_then ?_
                  refine x_seq ?_
                  refine x_block ?_
                  refine x_seq ?_
                  have hia : i < A.length := by omega
                  have hib : i < B.length := by omega
                  obtain ⟨ga, oa, rfl, hca⟩ := hga.at_ hia
                  obtain ⟨gb, ob, rfl, hcb⟩ := hgb.at_ hib
                  have hai := hgao _ (List.getElem_mem hia)
                  obtain ⟨hb1, hb2, hb3⟩ := hgbo _ (List.getElem_mem hib)
                  have hsA : mgA pg g (i + 1) = (wrF (mgA pg g i).1 pg A[i] B[i].2.2, wrE (mgA pg g i).1 pg A[i] (mgA pg g i).2 B[i].2.2.length) := by rw [mgA, hgA, hgB]; simp [List.getD, hia, hib]
                  refine x_draw [(b1, 0, _), (ga, oa + i * 1, [wV A[i]]), (gb, ob + i * 1, btV B[i])] 12 mixed rfl (sc_own (sc_cons hca.weak (sc_cons hcb.weak sc_end))) (fun hS => ?_)
                  refine d_take 0 rfl rfl (by kernel_rfl) (by kernel_rfl) (by kernel_rfl) rfl hS (v_move rfl) ?_
                  refine d_take 1 rfl rfl (by kernel_rfl) (by kernel_rfl) (by kernel_rfl) rfl hS (v_fieldAddr rfl Tryz.underlying87 rfl Tryz.sizeOf84 rfl (by first | exact Nat.zero_add _ | rfl)) ?_
                  refine d_take 2 rfl rfl (by kernel_rfl) (by kernel_rfl) (by kernel_rfl) rfl hS (v_load Tryz.isAgg84 rfl (by first | exact cell_sc0 (k := 0) rfl rfl | exact cell_sc0 (k := 1) rfl rfl | exact cell_sc0 (k := 2) rfl rfl)) ?_
                  refine d_take 3 rfl rfl (by kernel_rfl) (by kernel_rfl) (by kernel_rfl) rfl hS (v_move rfl) ?_
                  refine d_take 4 rfl rfl (by kernel_rfl) (by kernel_rfl) (by kernel_rfl) rfl hS (v_idx Tryz.underlying84 Tryz.sizeOf53 rfl rfl rfl hia (by first | exact Nat.zero_add _ | rfl)) ?_
                  refine d_take 5 rfl rfl (by kernel_rfl) (by kernel_rfl) (by kernel_rfl) rfl hS (v_load Tryz.isAgg53 rfl (cell_sc1 (k := 1) rfl)) ?_
                  refine d_take 6 rfl rfl (by kernel_rfl) (by kernel_rfl) (by kernel_rfl) rfl hS (v_fieldAddr rfl Tryz.underlying87 rfl Tryz.sizeOf85 rfl (by first | exact Nat.zero_add _ | rfl)) ?_
                  refine d_take 7 rfl rfl (by kernel_rfl) (by kernel_rfl) (by kernel_rfl) rfl hS (v_load Tryz.isAgg85 rfl (by first | exact cell_sc0 (k := 0) rfl rfl | exact cell_sc0 (k := 1) rfl rfl | exact cell_sc0 (k := 2) rfl rfl)) ?_
                  refine d_take 8 rfl rfl (by kernel_rfl) (by kernel_rfl) (by kernel_rfl) rfl hS (v_move rfl) ?_
                  refine d_take 9 rfl rfl (by kernel_rfl) (by kernel_rfl) (by kernel_rfl) rfl hS (v_idx Tryz.underlying85 Tryz.sizeOf76 rfl rfl rfl hib (by first | exact Nat.zero_add _ | rfl)) ?_
                  refine d_take 10 rfl rfl (by kernel_rfl) (by kernel_rfl) (by kernel_rfl) rfl hS (v_load Tryz.isAgg76 rfl (cell_sc1 (k := 2) rfl)) ?_
                  refine d_one 11 (by kernel_rfl) rfl rfl (d_call3 Tryz.call92 rfl (viWrite_spec W0 _ pv ps pm _ _ _ _ pg hP hF hFd A[i] hai B[i].2.2 hb2 hb1.weak hb3)) rfl ?_; clear hS
                  rintro _ B_ ⟨rfl, hB_⟩
                  obtain rfl := hB_.symm
                  refine ⟨(sc_own (sc_cons hca.weak (sc_cons hcb.weak sc_end))), fun hS => ?_⟩
                  refine d_done (by kernel_rfl) ?_; clear hS
                  refine n_then ?_
                  refine x_draw [(b1, 0, _), (ga, oa + i * 1, [wV A[i]]), (gb, ob + i * 1, btV B[i])] 12 mixed rfl (sc_own (sc_cons hca.weak (sc_cons hcb.weak sc_end))) (fun hS => ?_)
                  refine d_take 0 rfl rfl (by kernel_rfl) (by kernel_rfl) (by kernel_rfl) rfl hS (v_move rfl) ?_
                  refine d_take 1 rfl rfl (by kernel_rfl) (by kernel_rfl) (by kernel_rfl) rfl hS (v_fieldAddr rfl Tryz.underlying87 rfl Tryz.sizeOf84 rfl (by first | exact Nat.zero_add _ | rfl)) ?_
                  refine d_take 2 rfl rfl (by kernel_rfl) (by kernel_rfl) (by kernel_rfl) rfl hS (v_load Tryz.isAgg84 rfl (by first | exact cell_sc0 (k := 0) rfl rfl | exact cell_sc0 (k := 1) rfl rfl | exact cell_sc0 (k := 2) rfl rfl)) ?_
                  refine d_take 3 rfl rfl (by kernel_rfl) (by kernel_rfl) (by kernel_rfl) rfl hS (v_move rfl) ?_
                  refine d_take 4 rfl rfl (by kernel_rfl) (by kernel_rfl) (by kernel_rfl) rfl hS (v_idx Tryz.underlying84 Tryz.sizeOf53 rfl rfl rfl hia (by first | exact Nat.zero_add _ | rfl)) ?_
                  refine d_take 5 rfl rfl (by kernel_rfl) (by kernel_rfl) (by kernel_rfl) rfl hS (v_load Tryz.isAgg53 rfl (cell_sc1 (k := 1) rfl)) ?_
                  refine d_take 6 rfl rfl (by kernel_rfl) (by kernel_rfl) (by kernel_rfl) rfl hS (v_fieldAddr rfl Tryz.underlying87 rfl Tryz.sizeOf85 rfl (by first | exact Nat.zero_add _ | rfl)) ?_
                  refine d_take 7 rfl rfl (by kernel_rfl) (by kernel_rfl) (by kernel_rfl) rfl hS (v_load Tryz.isAgg85 rfl (by first | exact cell_sc0 (k := 0) rfl rfl | exact cell_sc0 (k := 1) rfl rfl | exact cell_sc0 (k := 2) rfl rfl)) ?_
                  refine d_take 8 rfl rfl (by kernel_rfl) (by kernel_rfl) (by kernel_rfl) rfl hS (v_move rfl) ?_
                  refine d_take 9 rfl rfl (by kernel_rfl) (by kernel_rfl) (by kernel_rfl) rfl hS (v_idx Tryz.underlying85 Tryz.sizeOf76 rfl rfl rfl hib (by first | exact Nat.zero_add _ | rfl)) ?_
                  refine d_take 10 rfl rfl (by kernel_rfl) (by kernel_rfl) (by kernel_rfl) rfl hS (v_load Tryz.isAgg76 rfl (cell_sc1 (k := 2) rfl)) ?_
                  refine d_one 11 (by kernel_rfl) rfl rfl (d_call3 Tryz.call93 rfl (rvWrite_spec W0 _ qv qs qm _ _ _ _ pg hP hF A[i] hai B[i].2.2 hb2 hb1.weak hb3)) rfl ?_; clear hS
                  rintro _ B_ ⟨rfl, hB_⟩
                  obtain rfl := hB_.symm
                  refine ⟨(sc_own (sc_cons hca.weak (sc_cons hcb.weak sc_end))), fun hS => ?_⟩
                  refine d_done (by kernel_rfl) ?_; clear hS
                  refine n_block ?_
                  refine n_then ?_
                  refine x_region ?_
                  refine s_val rfl (v_move rfl) ?_
                  refine s_val rfl (v_add rfl rfl (by first | exact w64 (by omega) | rfl)) ?_
                  refine s_val rfl (v_assign rfl) ?_
                  refine x_nil ?_
                  refine n_then ?_
                  refine inv_intro (i + 1) ?_ ?_ ?_ ?_
                  · show i + 1 ≤ mgN g
                    rw [mgN, hgA, hgB]; omega
                  · omega
                  · repeat (first | exact sub_nil | refine sub_cons rfl ?_)
                  · simp only [hsA]; exact inferInstance
                · intro c15
                  refine x_exit ?_
                  refine e_then ?_
                  refine e_then ?_
                  refine e_block ?_
                  refine n_then ?_
                  refine mid_intro () ?_ ?_ ?_
                  · trivial
                  · repeat (first | exact sub_nil | refine sub_cons rfl ?_)
                  · obtain rfl : i = mgN g := by rw [mgN, hgA, hgB]; omega
                    simp only [mgD]; exact inferInstance
              · intro g15_13
                refine s_no rfl rfl rfl rfl ?_
                refine s_val rfl (v_pick_f rfl rfl) ?_
                refine x_nil ?_
                refine n_then ?_
                refine x_iff rfl ?_
                refine x_exit ?_
                refine e_then ?_
                refine e_then ?_
                refine e_block ?_
                refine n_then ?_
                refine mid_intro () ?_ ?_ ?_
                · trivial
                · repeat (first | exact sub_nil | refine sub_cons rfl ?_)
                · obtain rfl : i = mgN g := by rw [mgN, hgA, hgB]; omega
                  simp only [mgD]; exact inferInstance
            · intro g15_6
              refine s_no rfl rfl rfl rfl ?_
              refine s_no rfl rfl rfl rfl ?_
              refine s_no rfl rfl rfl rfl ?_
              refine s_no rfl rfl rfl rfl ?_
              refine s_val rfl (v_pick_f rfl rfl) ?_
              refine s_val rfl (v_move rfl) ?_
              refine s_no rfl rfl rfl rfl ?_
              refine s_no rfl rfl rfl rfl ?_
              refine s_val rfl (v_pick_f rfl rfl) ?_
              refine x_nil ?_
              refine n_then ?_
              refine x_iff rfl ?_
              refine x_exit ?_
              refine e_then ?_
              refine e_then ?_
              refine e_block ?_
              refine n_then ?_
              refine mid_intro () ?_ ?_ ?_
              · trivial
              · repeat (first | exact sub_nil | refine sub_cons rfl ?_)
              · obtain rfl : i = mgN g := by rw [mgN, hgA, hgB]; omega
                simp only [mgD]; exact inferInstance
        · intro _ _
          refine x_cut (fun _ : Unit => True) (fun _ => [(1, .pointer (some ⟨b1, 0, none⟩)), (13, .pointer (some ⟨pv, 0, none⟩)), (15, .pointer (some ⟨qv, 0, none⟩))]) (fun _ => pt b1 (cob [.slice al L.length cl, .slice ah H.length ch, .slice aa A.length ca, .slice ab B.length cb, .int .u32 p] 87) :: prH pv ps pm qv qs qm (mgH pg g 0).2 (mgH pg g 0).1 pg R) ?_ ?_
          · skip
            refine x_seq ?_
            refine x_region ?_
            refine s_val rfl (v_assign rfl) ?_
            refine x_nil ?_
            refine n_then ?_
            refine x_block ?_
            refine x_loop (fun i : Nat => i ≤ min L.length 8) (fun i => [(1, .pointer (some ⟨b1, 0, none⟩)), (13, .pointer (some ⟨pv, 0, none⟩)), (15, .pointer (some ⟨qv, 0, none⟩)), (17, .int .i64 i)]) (fun i => pt b1 (cob [.slice al L.length cl, .slice ah H.length ch, .slice aa A.length ca, .slice ab B.length cb, .int .u32 p] 87) :: prH pv ps pm qv qs qm (mgD pg g i).2 (mgD pg g i).1 pg R) (fun i => 8 - i) 0 ?_ ?_ ?_ ?_
            · exact Nat.zero_le _
            · repeat (first | exact sub_nil | refine sub_cons rfl ?_)
            · exact inferInstance
            · intro i hi
              obtain ⟨hF, hFl, hFd⟩ := mgD_ok pg g i
              refine x_seq ?_
              refine x_seq ?_
              refine x_region ?_
              refine s_val rfl (v_move rfl) ?_
              refine s_val rfl (v_fieldAddr rfl Tryz.underlying87 rfl Tryz.sizeOf43 rfl (by first | exact Nat.zero_add _ | rfl)) ?_
              refine s_val rfl (v_load Tryz.isAgg43 rfl (cell_own rfl)) ?_
              refine s_val rfl (v_len_slice Tryz.underlying43 rfl) ?_
              refine s_val rfl (v_lss rfl rfl) ?_
              refine s_val rfl (v_move rfl) ?_
              refine s_and rfl rfl rfl ?_ ?_
              · intro g20_6
                refine s_val rfl (v_move rfl) ?_
                refine s_yes rfl rfl ?_
                refine s_val rfl (v_lss rfl rfl) ?_
                refine s_val rfl (v_pick_t rfl rfl) ?_
                refine x_nil ?_
                refine n_then ?_
                refine x_if rfl ?_ ?_
                · intro c20
                  refine x_skip ?_
                  refine n_then ?_
                  refine x_seq ?_
                  refine x_block ?_
                  refine x_seq ?_
                  have hi1 : i < L.length := by omega
                  obtain ⟨gl, ol, rfl, hcl⟩ := hgl.at_ hi1
                  have hdi := hglo _ (List.getElem_mem hi1)
                  have hsD : mgD pg g (i + 1) = (wrF (mgD pg g i).1 pg (16 * i) (putD L[i]), wrE (mgD pg g i).1 pg (16 * i) (mgD pg g i).2 16) := by rw [mgD, hgL]; simp [List.getD, hi1]
                  refine x_region ?_
                  refine s_val rfl (v_fieldAddr rfl Tryz.underlying87 rfl Tryz.sizeOf43 rfl (by first | exact Nat.zero_add _ | rfl)) ?_
                  refine s_val rfl (v_load Tryz.isAgg43 rfl (cell_own rfl)) ?_
                  refine s_val rfl (v_move rfl) ?_
                  refine s_val rfl (v_idx Tryz.underlying43 Tryz.sizeOf99 rfl rfl rfl hi1 (by first | exact Nat.zero_add _ | rfl)) ?_
                  refine s_val rfl (v_loadAgg Tryz.isAgg99 Tryz.sizeOf99 rfl hcl.weak rfl) ?_
                  refine s_do rfl (d_call Tryz.call91 rfl (dsPut_spec W0 _ L[i] hdi)) ?_
                  rintro _ B_ ⟨a', c', rfl, hB_⟩
                  obtain rfl := hB_.symm
                  refine run_form (E := 5) (sz := 1) (a := a') (c := c') (n := 16) (fun hf => ?_)
                  refine s_val rfl (v_assign rfl) ?_
                  refine x_nil ?_
                  refine n_then ?_
                  refine x_seq ?_
                  refine x_region ?_
                  refine s_val rfl (v_move rfl) ?_
                  refine s_val rfl (v_move rfl) ?_
                  refine s_val rfl (v_mul rfl rfl (by rw [w64 (by omega)]; omega : IntKind.wrap .i64 (16 * (i : Int)) = ((16 * i : Nat) : Int))) ?_
                  refine s_val rfl (v_conv Tryz.underlying3 Tryz.underlying53 rfl (w32u (by omega))) ?_
                  refine s_val rfl (v_move rfl) ?_
                  refine s_do rfl (d_call3 Tryz.call92 rfl (viWriteN_spec W0 _ pv ps pm _ c' 16 a' _ pg hP hF hFd (16 * i) (by omega) (putD L[i]) (putD_len _) (bytesL_by _) (sla_cells hf (cells_osl (E := 5) (sz := 1) (a := a') (c := c') (n := 16)) (fun _ => rfl) (byV_fm _).symm (by decide)) (by decide))) ?_
                  rintro _ B_ ⟨rfl, hB_⟩
                  obtain rfl := hB_.symm
                  refine x_nil ?_
                  refine n_then ?_
                  refine x_region ?_
                  refine s_val rfl (v_move rfl) ?_
                  refine s_val rfl (v_move rfl) ?_
                  refine s_val rfl (v_mul rfl rfl (by rw [w64 (by omega)]; omega : IntKind.wrap .i64 (16 * (i : Int)) = ((16 * i : Nat) : Int))) ?_
                  refine s_val rfl (v_conv Tryz.underlying3 Tryz.underlying53 rfl (w32u (by omega))) ?_
                  refine s_val rfl (v_move rfl) ?_
                  refine s_do rfl (d_call3 Tryz.call93 rfl (rvWriteN_spec W0 _ qv qs qm _ c' 16 a' _ pg hP hF (16 * i) (by omega) (putD L[i]) (putD_len _) (bytesL_by _) (sla_cells hf (cells_osl (E := 5) (sz := 1) (a := a') (c := c') (n := 16)) (fun _ => rfl) (byV_fm _).symm (by decide)) (by decide))) ?_
                  rintro _ B_ ⟨rfl, hB_⟩
                  obtain rfl := hB_.symm
                  refine x_nil ?_
                  refine n_block ?_
                  refine n_then ?_
                  refine x_region ?_
                  refine s_val rfl (v_move rfl) ?_
                  refine s_val rfl (v_add rfl rfl (by first | exact w64 (by omega) | rfl)) ?_
                  refine s_val rfl (v_assign rfl) ?_
                  refine x_nil ?_
                  refine n_then ?_
                  refine inv_intro (i + 1) ?_ ?_ ?_ ?_
                  · omega
                  · omega
                  · repeat (first | exact sub_nil | refine sub_cons rfl ?_)
                  · simp only [hsD]; exact inferInstance
                · intro c20
                  refine x_exit ?_
                  refine e_then ?_
                  refine e_then ?_
                  refine e_block ?_
                  refine n_then ?_
                  refine mid_intro () ?_ ?_ ?_
                  · trivial
                  · repeat (first | exact sub_nil | refine sub_cons rfl ?_)
                  · obtain rfl : i = min L.length 8 := by omega
                    simp only [mgH, hgL]; exact inferInstance
              · intro g20_6
                refine s_no rfl rfl rfl rfl ?_
                refine s_val rfl (v_pick_f rfl rfl) ?_
                refine x_nil ?_
                refine n_then ?_
                refine x_iff rfl ?_
                refine x_exit ?_
                refine e_then ?_
                refine e_then ?_
                refine e_block ?_
                refine n_then ?_
                refine mid_intro () ?_ ?_ ?_
                · trivial
                · repeat (first | exact sub_nil | refine sub_cons rfl ?_)
                · obtain rfl : i = min L.length 8 := by omega
                  simp only [mgH, hgL]; exact inferInstance
          · intro _ _
            refine x_cut (fun _ : Unit => True) (fun _ => [(1, .pointer (some ⟨b1, 0, none⟩)), (13, .pointer (some ⟨pv, 0, none⟩)), (15, .pointer (some ⟨qv, 0, none⟩))]) (fun _ => pt b1 (cob [.slice al L.length cl, .slice ah H.length ch, .slice aa A.length ca, .slice ab B.length cb, .int .u32 p] 87) :: prH pv ps pm qv qs qm (mgH pg g (min H.length 4)).2 (mgH pg g (min H.length 4)).1 pg R) ?_ ?_
            · skip
              refine x_seq ?_
              refine x_region ?_
              refine s_val rfl (v_assign rfl) ?_
              refine x_nil ?_
              refine n_then ?_
              refine x_block ?_
              refine x_loop (fun i : Nat => i ≤ min H.length 4) (fun i => [(1, .pointer (some ⟨b1, 0, none⟩)), (13, .pointer (some ⟨pv, 0, none⟩)), (15, .pointer (some ⟨qv, 0, none⟩)), (19, .int .i64 i)]) (fun i => pt b1 (cob [.slice al L.length cl, .slice ah H.length ch, .slice aa A.length ca, .slice ab B.length cb, .int .u32 p] 87) :: prH pv ps pm qv qs qm (mgH pg g i).2 (mgH pg g i).1 pg R) (fun i => 4 - i) 0 ?_ ?_ ?_ ?_
              · exact Nat.zero_le _
              · repeat (first | exact sub_nil | refine sub_cons rfl ?_)
              · exact inferInstance
              · intro i hi
                obtain ⟨hF, hFl, hFd⟩ := mgH_ok pg g i
                refine x_seq ?_
                refine x_seq ?_
                refine x_region ?_
                refine s_val rfl (v_move rfl) ?_
                refine s_val rfl (v_fieldAddr rfl Tryz.underlying87 rfl Tryz.sizeOf76 rfl (by first | exact Nat.zero_add _ | rfl)) ?_
                refine s_val rfl (v_load Tryz.isAgg76 rfl (cell_own rfl)) ?_
                refine s_val rfl (v_len_slice Tryz.underlying76 rfl) ?_
                refine s_val rfl (v_lss rfl rfl) ?_
                refine s_val rfl (v_move rfl) ?_
                refine s_and rfl rfl rfl ?_ ?_
                · intro g26_6
                  refine s_val rfl (v_move rfl) ?_
                  refine s_yes rfl rfl ?_
                  refine s_val rfl (v_lss rfl rfl) ?_
                  refine s_val rfl (v_pick_t rfl rfl) ?_
                  refine x_nil ?_
                  refine n_then ?_
                  refine x_if rfl ?_ ?_
                  · intro c26
                    refine x_skip ?_
                    refine n_then ?_
                    refine x_seq ?_
                    refine x_block ?_
                    refine x_seq ?_
                    have hi1 : i < H.length := by omega
                    obtain ⟨gh, oh, rfl, hch⟩ := hgh.at_ hi1
                    have hhi : H[i] < 256 := hgho.get hi1
                    have hsH : mgH pg g (i + 1) = (vsvF (mgH pg g i).1 pg (132 + 4 * i) 4 H[i], vsvD (mgH pg g i).1 pg (132 + 4 * i) 4 (mgH pg g i).2) := by rw [mgH, hgH]; simp [List.getD, hi1]
                    refine x_region ?_
                    refine s_val rfl (v_move rfl) ?_
                    refine s_val rfl (v_move rfl) ?_
                    refine s_val rfl (v_mul rfl rfl (by rw [w64 (by omega)]; omega : IntKind.wrap .i64 (4 * (i : Int)) = ((4 * i : Nat) : Int))) ?_
                    refine s_val rfl (v_add rfl rfl (by rw [w64 (by omega)]; omega : IntKind.wrap .i64 (132 + ((4 * i : Nat) : Int)) = ((132 + 4 * i : Nat) : Int))) ?_
                    refine s_val rfl (v_conv Tryz.underlying3 Tryz.underlying53 rfl (w32u (by omega))) ?_
                    refine s_val rfl (v_fieldAddr rfl Tryz.underlying87 rfl Tryz.sizeOf76 rfl (by first | exact Nat.zero_add _ | rfl)) ?_
                    refine s_val rfl (v_load Tryz.isAgg76 rfl (cell_own rfl)) ?_
                    refine s_val rfl (v_move rfl) ?_
                    refine s_val rfl (v_idx Tryz.underlying76 Tryz.sizeOf5 rfl rfl rfl hi1 (by first | exact Nat.zero_add _ | rfl)) ?_
                    refine s_val rfl (v_load Tryz.isAgg5 rfl (Cells.weak hch 0 _ rfl)) ?_
                    refine s_val rfl (v_conv Tryz.underlying5 Tryz.underlying53 rfl (w32u (by omega))) ?_
                    refine s_do rfl (d_call3 Tryz.call48 rfl (viSave_spec W0 _ pv ps pm _ _ pg hP hF hFd (132 + 4 * i) (by omega) 4 H[i] (by omega))) ?_
                    rintro _ B_ ⟨rfl, hB_⟩
                    obtain rfl := hB_.symm
                    refine x_nil ?_
                    refine n_then ?_
                    refine x_region ?_
                    refine s_val rfl (v_move rfl) ?_
                    refine s_val rfl (v_move rfl) ?_
                    refine s_val rfl (v_mul rfl rfl (by rw [w64 (by omega)]; omega : IntKind.wrap .i64 (4 * (i : Int)) = ((4 * i : Nat) : Int))) ?_
                    refine s_val rfl (v_add rfl rfl (by rw [w64 (by omega)]; omega : IntKind.wrap .i64 (132 + ((4 * i : Nat) : Int)) = ((132 + 4 * i : Nat) : Int))) ?_
                    refine s_val rfl (v_conv Tryz.underlying3 Tryz.underlying53 rfl (w32u (by omega))) ?_
                    refine s_val rfl (v_fieldAddr rfl Tryz.underlying87 rfl Tryz.sizeOf76 rfl (by first | exact Nat.zero_add _ | rfl)) ?_
                    refine s_val rfl (v_load Tryz.isAgg76 rfl (cell_own rfl)) ?_
                    refine s_val rfl (v_move rfl) ?_
                    refine s_val rfl (v_idx Tryz.underlying76 Tryz.sizeOf5 rfl rfl rfl hi1 (by first | exact Nat.zero_add _ | rfl)) ?_
                    refine s_val rfl (v_load Tryz.isAgg5 rfl (Cells.weak hch 0 _ rfl)) ?_
                    refine s_val rfl (v_conv Tryz.underlying5 Tryz.underlying53 rfl (w32u (by omega))) ?_
                    refine s_do rfl (d_call3 Tryz.call58 rfl (rvSave_spec W0 _ qv qs qm _ _ pg hP hF (132 + 4 * i) (by omega) 4 H[i] (by omega))) ?_
                    rintro _ B_ ⟨rfl, hB_⟩
                    obtain rfl := hB_.symm
                    refine x_nil ?_
                    refine n_block ?_
                    refine n_then ?_
                    refine x_region ?_
                    refine s_val rfl (v_move rfl) ?_
                    refine s_val rfl (v_add rfl rfl (by first | exact w64 (by omega) | rfl)) ?_
                    refine s_val rfl (v_assign rfl) ?_
                    refine x_nil ?_
                    refine n_then ?_
                    refine inv_intro (i + 1) ?_ ?_ ?_ ?_
                    · omega
                    · omega
                    · repeat (first | exact sub_nil | refine sub_cons rfl ?_)
                    · simp only [hsH]; exact inferInstance
                  · intro c26
                    refine x_exit ?_
                    refine e_then ?_
                    refine e_then ?_
                    refine e_block ?_
                    refine n_then ?_
                    refine mid_intro () ?_ ?_ ?_
                    · trivial
                    · repeat (first | exact sub_nil | refine sub_cons rfl ?_)
                    · obtain rfl : i = min H.length 4 := by omega
                      exact inferInstance
                · intro g26_6
                  refine s_no rfl rfl rfl rfl ?_
                  refine s_val rfl (v_pick_f rfl rfl) ?_
                  refine x_nil ?_
                  refine n_then ?_
                  refine x_iff rfl ?_
                  refine x_exit ?_
                  refine e_then ?_
                  refine e_then ?_
                  refine e_block ?_
                  refine n_then ?_
                  refine mid_intro () ?_ ?_ ?_
                  · trivial
                  · repeat (first | exact sub_nil | refine sub_cons rfl ?_)
                  · obtain rfl : i = min H.length 4 := by omega
                    exact inferInstance
            · intro _ _
              refine x_seq ?_
              obtain ⟨hF, hFl, hFd⟩ := mgH_ok pg g (min H.length 4)
              have hmg : mgP pg g = (vsvF (mgH pg g (min H.length 4)).1 pg 128 4 p, vsvD (mgH pg g (min H.length 4)).1 pg 128 4 (mgH pg g (min H.length 4)).2) := by rw [mgP, hgH, hgP]
              rw [hmg]
              generalize (mgH pg g (min H.length 4)).1 = f0 at hF hFl ⊢
              generalize (mgH pg g (min H.length 4)).2 = d0 at hFd ⊢
              refine x_region ?_
              refine s_val rfl (v_move rfl) ?_
              refine s_val rfl (v_fieldAddr rfl Tryz.underlying87 rfl Tryz.sizeOf53 rfl (by first | exact Nat.zero_add _ | rfl)) ?_
              refine s_val rfl (v_load Tryz.isAgg53 rfl (cell_own rfl)) ?_
              refine s_do rfl (d_call3 Tryz.call48 rfl (viSave_spec W0 _ pv ps pm d0 f0 pg hP hF hFd 128 (by decide) 4 p hgp)) ?_
              rintro _ B_ ⟨rfl, hB_⟩
              obtain rfl := hB_.symm
              refine x_nil ?_
              refine n_then ?_
              refine x_seq ?_
              refine x_region ?_
              refine s_val rfl (v_move rfl) ?_
              refine s_val rfl (v_fieldAddr rfl Tryz.underlying87 rfl Tryz.sizeOf53 rfl (by first | exact Nat.zero_add _ | rfl)) ?_
              refine s_val rfl (v_load Tryz.isAgg53 rfl (cell_own rfl)) ?_
              refine s_do rfl (d_call3 Tryz.call58 rfl (rvSave_spec W0 _ qv qs qm d0 f0 pg hP hF 128 (by decide) 4 p hgp)) ?_
              rintro _ B_ ⟨rfl, hB_⟩
              obtain rfl := hB_.symm
              refine x_nil ?_
              refine n_then ?_
              refine x_seq ?_
              refine x_region ?_
              refine s_do rfl (d_call Tryz.call25 rfl (qNew_spec W0 _)) ?_
              rintro _ B_ ⟨bq, rfl, hB_⟩
              obtain rfl := hB_.symm
              refine s_val rfl (v_assign rfl) ?_
              refine x_nil ?_
              refine n_then ?_
              refine x_seq ?_
              refine x_region ?_
              refine s_val rfl (v_build Tryz.underlying63 Tryz.zeroValue63 (sized_cons Tryz.sizeOf59 sized_nil) fil_nil) ?_
              refine s_do rfl (d_boxA rfl) ?_
              rintro _ _ ⟨br, rfl, rfl⟩
              refine s_val rfl (v_assign rfl) ?_
              refine x_nil ?_
              refine n_then ?_
              refine x_seq ?_
              refine x_seq ?_
              refine run_pt (b := br) (o' := rqO qs0) rfl ?_
              obtain ⟨hvF, hvL⟩ := vsvF_ok (pg := pg) (pa := 128) (w := 4) (x := p) hF
              rw [hFl] at hvL
              generalize vsvF f0 pg 128 4 p = f1 at hvF hvL ⊢
              generalize vsvD f0 pg 128 4 d0 = d1
              rw [← hvL] at hfit
              refine x_region ?_
              refine s_val rfl (v_move rfl) ?_
              refine s_val rfl (v_move rfl) ?_
              refine s_do rfl (d_call Tryz.call114 rfl (lies27_spec W0 _)) ?_
              rintro _ B_ ⟨rfl, hB_⟩
              obtain rfl := hB_.symm
              refine s_do rfl (d_call4 Tryz.call26 rfl (qLay_spec W0 _ bq pv ps pm d1 f1 pg hP qs0 ⟨0, 128, 192, ((4 : Nat) : Int)⟩ ⟨by decide, by decide, by decide⟩ hfit)) ?_
              rintro _ B_ ⟨rfl, hB_⟩
              obtain rfl := hB_.symm
              refine s_val rfl (v_neq rfl rfl) ?_
              refine s_val rfl (v_move rfl) ?_
              refine s_or rfl rfl rfl ?_ ?_
              · intro g34_6
                exact absurd rfl g34_6
              · intro g34_6
                refine s_val rfl (v_move rfl) ?_
                refine s_yes rfl rfl ?_
                refine s_val rfl (v_move rfl) ?_
                refine s_yes rfl rfl ?_
                refine s_do rfl (d_call Tryz.call114 rfl (lies27_spec W0 _)) ?_
                rintro _ B_ ⟨rfl, hB_⟩
                obtain rfl := hB_.symm
                refine s_yes rfl rfl ?_
                refine s_do rfl (d_call4 Tryz.call31 rfl (rqLay_spec W0 _ br qv qs qm d1 f1 pg hP qs0 ⟨0, 128, 192, ((4 : Nat) : Int)⟩ ⟨by decide, by decide, by decide⟩ hfit)) ?_
                rintro _ B_ ⟨rfl, hB_⟩
                obtain rfl := hB_.symm
                refine s_yes rfl rfl ?_
                refine s_val rfl (v_neq rfl rfl) ?_
                refine s_val rfl (v_pick_f rfl rfl) ?_
                refine x_nil ?_
                refine n_then ?_
                refine x_if rfl ?_ ?_
                · intro c34
                  exact absurd rfl c34
                · intro c34
                  refine x_skip ?_
                  refine n_then ?_
                  refine x_seq ?_
                  refine x_region ?_
                  refine s_val rfl (v_move rfl) ?_
                  refine s_val rfl (v_move rfl) ?_
                  refine s_val rfl (v_move rfl) ?_
                  refine s_val rfl (v_move rfl) ?_
                  refine s_val rfl (v_assign rfl) ?_
                  refine s_val rfl (v_assign rfl) ?_
                  refine s_val rfl (v_assign rfl) ?_
                  refine s_val rfl (v_assign rfl) ?_
                  refine x_nil ?_
                  refine n_then ?_
                  refine x_ret ?_
                  refine x_done (.inl rfl) (.cons (r_tmp rfl) (.cons (r_tmp rfl) (.cons (r_tmp rfl) (.cons (r_tmp rfl) .nil)))) ?_
                  exact ⟨_, ⟨pv, ps, pm, qv, qs, qm, bq, br, rfl, rfl⟩, inferInstance⟩
end Go.Proofs.YtechkfopkpkigaaGreat
namespace Go.Proofs.YtechkfopkpkigaaGreat
open Go.RowKit
set_option linter.unusedSimpArgs false
set_option linter.unusedVariables false
set_option maxRecDepth 20000
theorem svGo_ok {tx : Bool} {pg : List Pl} {port : Int} {len : Nat} {r : Rg3} : ∀ (k : Nat) {x : SvS}, SvOk len r x → SvOk len r (svGo tx pg port k x)
  | 0, x, h => h
  | k + 1, x, h => by
    have ho := (svSt_ok (tx := tx) (pg := pg) (port := port) h).1
    rw [svGo]; split
    · exact svGo_ok k ho
    · exact ho
theorem fit27 : fitB 8 (pg23 8) ⟨0, 128, 192, ((4 : Nat) : Int)⟩ = true := by decide +kernel
theorem r27_ok : Rg3.ok ⟨0, 128, 192, ((4 : Nat) : Int)⟩ := ⟨by decide, by decide, by decide⟩
theorem q27_ok : QOk q27 := ⟨fun _ => by show ((4 : Nat) : Int) = 2 ∨ ((4 : Nat) : Int) = 4 ∨ ((4 : Nat) : Int) = 8; decide, fun _ => by show (128 : Nat) ≤ 1000; decide, fun _ => by show (192 : Nat) ≤ 1000; decide, by decide, by decide⟩
theorem sv_start {fr : List Frm} {d : Nat} {ps : List Prt} {s : QS} (hs : QOk s) (hr : s.r = ⟨0, 128, 192, ((4 : Nat) : Int)⟩) (hF : Frs fr) (hl : fr.length = 8) (hd : d < 4096) (hp : PrS ps) : SvOk 8 ⟨0, 128, 192, ((4 : Nat) : Int)⟩ ⟨fr, d, s, ps, 0, 0, 0, 0⟩ := ⟨hF, hl, hd, hs, hr, hp⟩
end Go.Proofs.YtechkfopkpkigaaGreat
namespace Go.Proofs.YtechkfopkpkigaaGreat
open Go.RowKit
set_option linter.unusedSimpArgs false
set_option linter.unusedVariables false
set_option maxRecDepth 20000
theorem putB_get {l : List Nat} {o k x j : Nat} (h : o + k ≤ l.length) : (putB l o k x).getD j 0 = if o ≤ j ∧ j < o + k then (leB k x).getD (j - o) 0 else l.getD j 0 := by
  have hn : (leB k x).length = k := leB_len k x
  have ht : (l.take o).length = o := by rw [List.length_take]; omega
  unfold putB
  simp only [List.getD_eq_getElem?_getD]
  by_cases h1 : j < o
  · rw [if_neg (by omega), List.append_assoc, List.getElem?_append_left (by omega), List.getElem?_take, if_pos h1]
  · by_cases h2 : j < o + k
    · rw [if_pos ⟨by omega, h2⟩, List.getElem?_append_left (by rw [List.length_append]; omega), List.getElem?_append_right (by omega), ht]
    · rw [if_neg (by omega), List.getElem?_append_right (by rw [List.length_append]; omega), List.length_append, ht, hn, List.getElem?_drop, show o + k + (j - (o + k)) = j by omega]
theorem ld_svW {fr : List Frm} {i i' o o' k x : Nat} (hF : Frs fr) (hi : i < fr.length) (hi' : i' < fr.length) (hk : k = 1 ∨ k = 2 ∨ k = 4) (ho : o + k ≤ 64) (ho' : o' < 64) :
    ldN (svF fr i o k x) i' o' 1 = if i = i' ∧ o ≤ o' ∧ o' < o + k then (leB k x).getD (o' - o) 0 else ldN fr i' o' 1 := by
  have hs : svOk fr (i : Int) (o : Int) (k : Int) = true := svOk_of hi hk ho
  have hF' := svF_ok (f := i) (off := o) (w := k) (v := x) hF
  have e1 := (ldN_nat (k := 1) hF' (i := i') (o := o') (by rw [svF_len]; exact hi') (by omega) (by omega)).1
  have e2 := (ldN_nat (k := 1) hF (i := i') (o := o') hi' (by omega) (by omega)).1
  have hl := (hF.get hi).1
  show ldN (svF fr i o k x) i' o' ((1 : Nat) : Int) = if i = i' ∧ o ≤ o' ∧ o' < o + k then (leB k x).getD (o' - o) 0 else ldN fr i' o' ((1 : Nat) : Int)
  rw [e1, e2, svF, if_pos hs, Int.toNat_natCast, Int.toNat_natCast, Int.toNat_natCast, getD_set hi]
  by_cases e : i = i'
  · subst e
    have hpl : (putB (fr.getD i []) o k x).length = (fr.getD i []).length := putB_len (by rw [hl]; exact ho)
    rw [if_pos rfl, take_one (by rw [hpl, hl]; exact ho'), take_one (by rw [hl]; exact ho'), putB_get (by rw [hl]; exact ho)]
    by_cases c : o ≤ o' ∧ o' < o + k
    · rw [if_pos c, if_pos ⟨rfl, c⟩]
    · rw [if_neg c, if_neg (fun q => c q.2)]
  · rw [if_neg e, if_neg (fun h => e h.1)]
theorem id23 : ∀ i, i < 8 → gGot (pg23 8) ((i : Nat) : Int) = ((i : Int), 3) := by decide +kernel
theorem fnd23 : ∀ k, k < 128 → fndE 8 (pg23 8) (4 * k) 4 2 = 0 ∧ fndE 8 (pg23 8) (4 * k) 4 1 = 0 := by decide +kernel
theorem own23 : ∀ k, k < 128 → ownB 8 (pg23 8) (4 * k) 4 = true := by decide +kernel
theorem wh23 {a : Nat} (h : a < 512) : whr (pg23 8) a = ((a / 64 : Nat) : Int) := by rw [whr, pgI, id23 _ (by omega)]
theorem rdv_save {fr : List Frm} (hF : Frs fr) (hl : fr.length = 8) {k x a : Nat} (hk : k < 128) (ha : a < 512) :
    rdv (vsvF fr (pg23 8) (4 * k) 4 x) (pg23 8) a = if 4 * k ≤ a ∧ a < 4 * k + 4 then (leB 4 x).getD (a - 4 * k) 0 else rdv fr (pg23 8) a := by
  rw [vsvF, hl, if_pos (fnd23 k hk).1, id23 (4 * k / 64) (by omega), rdv, wh23 ha, rdv, wh23 ha]
  refine (ld_svW (i := 4 * k / 64) (i' := a / 64) (o := 4 * k % 64) (o' := a % 64) (k := 4) hF (by omega) (by omega) (by omega) (by omega) (by omega)).trans ?_
  by_cases c : 4 * k ≤ a ∧ a < 4 * k + 4
  · rw [if_pos c, if_pos (by omega), show a % 64 - 4 * k % 64 = a - 4 * k by omega]
  · rw [if_neg c, if_neg (by omega)]
theorem rdv_wrK {fr : List Frm} (hF : Frs fr) (hl : fr.length = 8) {pa a : Nat} {bs : List Nat} (hb : By bs) (hpa : pa + bs.length ≤ 512) (ha : a < 512) : ∀ n, n ≤ bs.length →
    rdv (wrK fr (pg23 8) pa bs n) (pg23 8) a = if pa ≤ a ∧ a < pa + n then bs.getD (a - pa) 0 else rdv fr (pg23 8) a
  | 0, _ => by rw [if_neg (by omega)]; rfl
  | n + 1, hn => by
    obtain ⟨hFn, hln⟩ := wrK_ok (pg := pg23 8) (pa := pa) (bs := bs) hF n
    have ih := rdv_wrK hF hl hb hpa ha n (by omega)
    have hbn : bs.getD n 0 < 256 := by rw [List.getD_eq_getElem?_getD, List.getElem?_eq_getElem (by omega)]; exact hb.get (by omega)
    rw [rdv, wh23 ha] at ih ⊢
    rw [wrK, wh23 (by omega)]
    refine (ld_svW (i := (pa + n) / 64) (i' := a / 64) (o := (pa + n) % 64) (o' := a % 64) (k := 1) hFn (by omega) (by omega) (by omega) (by omega) (by omega)).trans ?_
    by_cases c : a = pa + n
    · subst c
      rw [if_pos (by omega), if_pos (by omega), show (pa + n) % 64 - (pa + n) % 64 = 0 by omega, show pa + n - pa = n by omega]
      rw [show leB 1 (bs.getD n 0) = [bs.getD n 0 % 256] by simp [leB], List.getD_cons_zero, Nat.mod_eq_of_lt hbn]
    · rw [if_neg (by omega), ih]
      by_cases c2 : pa ≤ a ∧ a < pa + n
      · rw [if_pos c2, if_pos (by omega)]
      · rw [if_neg c2, if_neg (by omega)]
def wd (fr : List Frm) (k : Nat) : Nat := wrdW fr (pg23 8) (4 * k)
theorem wd_eq {fr : List Frm} (hl : fr.length = 8) {k : Nat} (hk : k < 128) : wd fr k = leN (rdL fr (pg23 8) (4 * k) 4) := by rw [wd, wrdW, hl, if_pos (own23 k hk)]
theorem wd_of {fr : List Frm} (hl : fr.length = 8) {k x : Nat} (hk : k < 128) (hx : x < 4294967296) (h : ∀ i, i < 4 → rdv fr (pg23 8) (4 * k + i) = (leB 4 x).getD i 0) : wd fr k = x := by
  have e : rdL fr (pg23 8) (4 * k) 4 = leB 4 x := by
    apply List.ext_getElem
    · rw [rdL_len, leB_len]
    · intro i h1 h2
      rw [leB_len] at h2
      simp only [rdL, List.getElem_map, List.getElem_range]
      rw [h i h2, List.getD_eq_getElem?_getD, List.getElem?_eq_getElem (by rw [leB_len]; exact h2)]; rfl
  rw [wd_eq hl hk, e, leN_leB]; exact Nat.mod_eq_of_lt (by simpa using hx)
theorem wd_congr {fr fr' : List Frm} (hl : fr.length = 8) (hl' : fr'.length = 8) {k : Nat} (hk : k < 128) (h : ∀ i, i < 4 → rdv fr' (pg23 8) (4 * k + i) = rdv fr (pg23 8) (4 * k + i)) : wd fr' k = wd fr k := by
  rw [wd_eq hl hk, wd_eq hl' hk]
  congr 1
  apply List.map_congr_left
  intro i hi
  exact h i (List.mem_range.1 hi)
theorem wd_save {fr : List Frm} (hF : Frs fr) (hl : fr.length = 8) {k x j : Nat} (hk : k < 128) (hj : j < 128) (hx : x < 4294967296) : wd (vsvF fr (pg23 8) (4 * k) 4 x) j = if j = k then x else wd fr j := by
  have hl' : (vsvF fr (pg23 8) (4 * k) 4 x).length = 8 := (vsvF_ok hF).2.trans hl
  by_cases e : j = k
  · subst e; rw [if_pos rfl]
    exact wd_of hl' hj hx fun i hi => by rw [rdv_save hF hl hk (by omega), if_pos (by omega), show 4 * j + i - 4 * j = i by omega]
  · rw [if_neg e]
    exact wd_congr hl hl' hj fun i hi => by rw [rdv_save hF hl hk (by omega), if_neg (by omega)]
theorem bytesL_one (x : Nat) : bytesL [x] = leB 4 x := by simp [bytesL]
theorem wd_write {fr : List Frm} (hF : Frs fr) (hl : fr.length = 8) {k x j : Nat} (hk : k < 128) (hj : j < 128) (hx : x < 4294967296) : wd (wrF fr (pg23 8) (4 * k) (bytesL [x])) j = if j = k then x else wd fr j := by
  have hl' : (wrF fr (pg23 8) (4 * k) (bytesL [x])).length = 8 := (wrF_ok hF).2.trans hl
  have hb := bytesL_by [x]
  have hn : (bytesL [x]).length = 4 := by rw [bytesL_len]; rfl
  have hr : ∀ a, a < 512 → rdv (wrF fr (pg23 8) (4 * k) (bytesL [x])) (pg23 8) a = if 4 * k ≤ a ∧ a < 4 * k + 4 then (leB 4 x).getD (a - 4 * k) 0 else rdv fr (pg23 8) a := fun a ha => by
    rw [wrF, hl, hn, if_pos (show ownB 8 (pg23 8) (4 * k) ((4 : Nat) : Int) = true from own23 k hk), rdv_wrK hF hl hb (by omega) ha 4 (by omega), bytesL_one]
  by_cases e : j = k
  · subst e; rw [if_pos rfl]
    exact wd_of hl' hj hx fun i hi => by rw [hr _ (by omega), if_pos (by omega), show 4 * j + i - 4 * j = i by omega]
  · rw [if_neg e]
    exact wd_congr hl hl' hj fun i hi => by rw [hr _ (by omega), if_neg (by omega)]
theorem ld_wd {fr : List Frm} (hF : Frs fr) (hl : fr.length = 8) {k : Nat} (hk : k < 128) : vldN fr (pg23 8) (4 * k) 4 = wd fr k := by
  rw [vldN, hl, if_pos (fnd23 k hk).2, id23 (4 * k / 64) (by omega), wd_eq hl hk]
  refine (ldN_nat (i := 4 * k / 64) (o := 4 * k % 64) (k := 4) hF (by omega) (by omega) (by omega)).1.trans ?_
  have hfl := (hF.get (f := 4 * k / 64) (by omega)).1
  have hld : ∀ i, i < 4 → ldN fr ((4 * k / 64 : Nat) : Int) ((4 * k % 64 + i : Nat) : Int) 1 = (fr.getD (4 * k / 64) []).getD (4 * k % 64 + i) 0 := fun i hi => by
    refine (ldN_nat (i := 4 * k / 64) (o := 4 * k % 64 + i) (k := 1) hF (by omega) (by omega) (by omega)).1.trans ?_
    rw [take_one (by rw [hfl]; omega)]
  generalize fr.getD (4 * k / 64) [] = L at hfl hld
  congr 1
  apply List.ext_getElem
  · rw [rdL_len, List.length_take, List.length_drop, hfl]; omega
  · intro i h1 h2
    rw [rdL_len] at h2
    simp only [rdL, List.getElem_map, List.getElem_range]
    rw [rdv, wh23 (by omega), show (4 * k + i) / 64 = 4 * k / 64 by omega, show (4 * k + i) % 64 = 4 * k % 64 + i by omega]
    rw [hld i h2, List.getElem_take, List.getElem_drop, List.getD_eq_getElem?_getD, List.getElem?_eq_getElem (by rw [hfl]; omega)]; rfl
end Go.Proofs.YtechkfopkpkigaaGreat
namespace Go.Proofs.YtechkfopkpkigaaGreat
open Go.RowKit
set_option linter.unusedSimpArgs false
set_option linter.unusedVariables false
set_option maxRecDepth 20000
@[reducible] def tq (n i p : Nat) : QS := ⟨⟨0, 128, 192, n⟩, true, 0, i, p⟩
theorem tq_ok {n i p : Nat} (hn : n = 2 ∨ n = 4 ∨ n = 8) (hi : i < 65536) (hp : p < 65536) : QOk (tq n i p) := ⟨fun _ => by show (n : Int) = 2 ∨ (n : Int) = 4 ∨ (n : Int) = 8; omega, fun _ => by show (128 : Nat) ≤ 1000; decide, fun _ => by show (192 : Nat) ≤ 1000; decide, hi, hp⟩
theorem hdT {fr : List Frm} (hF : Frs fr) (hl : fr.length = 8) {n last : Nat} (hn : n = 2 ∨ n = 4 ∨ n = 8) :
    hdR fr (pg23 8) 128 last n = if n < wtN last (wd fr 32) then (0, false, 7) else if wtN last (wd fr 32) = 0 then (0, false, 0) else if n ≤ wd fr (33 + last % n) then (0, false, 1) else (wd fr (33 + last % n), true, 0) := by
  have hm := Nat.mod_lt last (show 0 < n by omega)
  have hA : hdA 128 last n = 4 * (33 + last % n) := by unfold hdA; omega
  have h1 : ownB fr.length (pg23 8) 128 4 = true := by rw [hl]; exact own23 32 (by decide)
  have h2 : ownB fr.length (pg23 8) ((4 * (33 + last % n) : Nat) : Nat) 4 = true := by rw [hl]; exact own23 _ (by omega)
  rw [hdR, if_pos h1, hA, if_pos h2]; rfl
theorem nx_tq {fr : List Frm} {pg : List Pl} {n i p : Nat} {r : Nat × Bool × Int} (h : hdR fr pg 128 i n = r) :
    nxR fr pg (tq n i p) = (if r.2.2 ≠ 0 then (0, false, r.2.2) else r) ∧ nxS fr pg (tq n i p) = (if r.2.2 ≠ 0 then { tq n i p with br := r.2.2 } else if r.2.1 then tq n ((i + 1) % 65536) p else tq n i p) := by
  subst h; exact ⟨rfl, rfl⟩
theorem stepT0 {fr : List Frm} (hF : Frs fr) (hl : fr.length = 8) {n i p : Nat} (hn : n = 2 ∨ n = 4 ∨ n = 8) (hi : i < 60000) (hw : wd fr 32 = i) : nxR fr (pg23 8) (tq n i p) = (0, false, 0) ∧ nxS fr (pg23 8) (tq n i p) = tq n i p := by
  have h := hdT hF hl (last := i) hn
  rw [hw, show wtN i i = 0 by unfold wtN; omega, if_neg (by omega), if_pos rfl] at h
  exact nx_tq h
end Go.Proofs.YtechkfopkpkigaaGreat
namespace Go.Proofs.YtechkfopkpkigaaGreat
open Go.RowKit
set_option linter.unusedSimpArgs false
set_option linter.unusedVariables false
set_option maxRecDepth 20000
theorem frm23 : ∀ p : Nat, p < 8 → frmB 8 (pg23 8) (p : Int) = true := by decide +kernel
theorem own_any {pa n : Nat} (h : pa + n ≤ 512) : ownB 8 (pg23 8) pa (n : Int) = true := ownB_nat.2 ⟨h, fun i hi => frm23 _ (by omega)⟩
theorem rdv_wrF {fr : List Frm} (hF : Frs fr) (hl : fr.length = 8) {pa a : Nat} {bs : List Nat} (hb : By bs) (hpa : pa + bs.length ≤ 512) (ha : a < 512) :
    rdv (wrF fr (pg23 8) pa bs) (pg23 8) a = if pa ≤ a ∧ a < pa + bs.length then bs.getD (a - pa) 0 else rdv fr (pg23 8) a := by
  rw [wrF, hl, if_pos (own_any hpa), rdv_wrK hF hl hb hpa ha _ (Nat.le_refl _)]
theorem doneV {fr : List Frm} (hF : Frs fr) (hl : fr.length = 8) {i h t d : Nat} (hi : i < 60000) (hd : d < 4096) :
    ∃ fr' d', dnX fr (pg23 8) d (tq 4 (i + 1) i) h t = ⟨0, tq 4 (i + 1) (i + 1), fr', d'⟩ ∧ Frs fr' ∧ fr'.length = 8 ∧ d' < 4096 ∧ (∀ a, a < 192 → rdv fr' (pg23 8) a = rdv fr (pg23 8) a) ∧ (∀ a, 228 ≤ a → a < 512 → rdv fr' (pg23 8) a = rdv fr (pg23 8) a) ∧
      fr' = wrF (wrF (wrF fr (pg23 8) (4 * (49 + 2 * (i % 4))) (bytesL [h])) (pg23 8) (4 * (50 + 2 * (i % 4))) (bytesL [t])) (pg23 8) (4 * 48) (bytesL [i + 1]) := by
  have hm := Nat.mod_lt i (show 0 < 4 by omega)
  have hA : dnA (tq 4 (i + 1) i) = 4 * (49 + 2 * (i % 4)) := by show 192 + 4 + 8 * (i % 4) = _; omega
  have o1 : ownB fr.length (pg23 8) (dnA (tq 4 (i + 1) i)) 4 = true := by rw [hl, hA]; exact own23 _ (by omega)
  have o2 : ownB fr.length (pg23 8) (dnA (tq 4 (i + 1) i) + 4) 4 = true := by rw [hl, hA, show 4 * (49 + 2 * (i % 4)) + 4 = 4 * (50 + 2 * (i % 4)) by omega]; exact own23 _ (by omega)
  have o3 : ownB fr.length (pg23 8) (tq 4 (i + 1) i).r.used 4 = true := by rw [hl]; exact own23 48 (by decide)
  have hok := dnX_ok (pg := pg23 8) (d := d) (s := tq 4 (i + 1) i) (h := h) (n := t) hF hd (tq_ok (by omega) (by omega) (by omega))
  have hX : dnX fr (pg23 8) d (tq 4 (i + 1) i) h t = ⟨0, tq 4 (i + 1) (i + 1), dnF3 fr (pg23 8) (tq 4 (i + 1) i) h t, dnD3 fr (pg23 8) d (tq 4 (i + 1) i) h t⟩ := by
    rw [dnX, if_pos (by rfl), if_pos o1, if_pos o2, if_pos o3]
    show DnR.mk 0 (tq 4 (i + 1) ((i + 1) % 65536)) _ _ = _
    rw [Nat.mod_eq_of_lt (by omega)]
  have e3 : dnF3 fr (pg23 8) (tq 4 (i + 1) i) h t = wrF (wrF (wrF fr (pg23 8) (4 * (49 + 2 * (i % 4))) (bytesL [h])) (pg23 8) (4 * (50 + 2 * (i % 4))) (bytesL [t])) (pg23 8) (4 * 48) (bytesL [i + 1]) := by
    show wrF (wrF (wrF fr (pg23 8) (dnA (tq 4 (i + 1) i)) _) (pg23 8) (dnA (tq 4 (i + 1) i) + 4) _) (pg23 8) 192 (bytesL [(i + 1) % 65536]) = _
    rw [hA, show 4 * (49 + 2 * (i % 4)) + 4 = 4 * (50 + 2 * (i % 4)) by omega, show (i + 1) % 65536 = i + 1 by omega]
  rw [hX] at hok ⊢
  obtain ⟨k1, k2, k3, _⟩ := hok
  have hn : ∀ x : Nat, (bytesL [x]).length = 4 := fun x => by rw [bytesL_len]; rfl
  obtain ⟨f1, l1⟩ := wrF_ok (pg := pg23 8) (pa := 4 * (49 + 2 * (i % 4))) (bs := bytesL [h]) hF
  rw [hl] at l1
  obtain ⟨f2, l2⟩ := wrF_ok (pg := pg23 8) (pa := 4 * (50 + 2 * (i % 4))) (bs := bytesL [t]) f1
  rw [l1] at l2
  have hr : ∀ a, a < 512 → (a < 192 ∨ 228 ≤ a) → rdv (dnF3 fr (pg23 8) (tq 4 (i + 1) i) h t) (pg23 8) a = rdv fr (pg23 8) a := fun a ha hc => by
    rw [e3, rdv_wrF f2 l2 (bytesL_by _) (by rw [hn]; omega) ha, hn, if_neg (by omega), rdv_wrF f1 l1 (bytesL_by _) (by rw [hn]; omega) ha, hn, if_neg (by omega), rdv_wrF hF hl (bytesL_by _) (by rw [hn]; omega) ha, hn, if_neg (by omega)]
  exact ⟨_, _, rfl, k1, k2.trans hl, k3, fun a ha => hr a (by omega) (.inl ha), fun a h1 ha => hr a ha (.inr h1), e3⟩
@[reducible] def dW (n f : Nat) : Dsc := ⟨320, n, f, 0⟩
structure WMem (D : Dsc) (fr : List Frm) (p : Nat) : Prop where
  frs : Frs fr
  len : fr.length = 8
  desc : ∀ a, a < 16 → rdv fr (pg23 8) a = (putD D).getD a 0
  heads : ∀ k, k < 4 → wd fr (33 + k) = 0
  put : wd fr 32 = p
theorem WMem.keep {D : Dsc} {fr fr' : List Frm} {p : Nat} (h : WMem D fr p) (hF : Frs fr') (hl : fr'.length = 8) (hr : ∀ a, a < 192 → rdv fr' (pg23 8) a = rdv fr (pg23 8) a) : WMem D fr' p :=
  ⟨hF, hl, fun a ha => (hr a (by omega)).trans (h.desc a ha), fun k hk => (wd_congr h.len hl (by omega) fun i hi => hr _ (by omega)).trans (h.heads k hk), (wd_congr h.len hl (by omega) fun i hi => hr _ (by omega)).trans h.put⟩
theorem lk_W {n f p : Nat} {fr : List Frm} (hn : n ≤ 64) (hf : f = 0 ∨ f = 2) (hD : dsOf (putD (dW n f)) = dW n f) (h : WMem (dW n f) fr p) : lk fr (pg23 8) r27 0 0 false = (dW n f, 0) := by
  have hrd : rdL fr (pg23 8) 0 16 = putD (dW n f) := by
    apply List.ext_getElem
    · rw [rdL_len, putD_len]
    · intro i h1 h2
      rw [rdL_len] at h1
      have hp : i < (putD (dW n f)).length := by rw [putD_len]; exact h1
      simp only [rdL, List.getElem_map, List.getElem_range, Nat.zero_add]
      rw [h.desc i h1, List.getD_eq_getElem?_getD, List.getElem?_eq_getElem hp]; rfl
  have o1 : ownB fr.length (pg23 8) 0 16 = true := by rw [h.len]; exact own_any (pa := 0) (n := 16) (by decide)
  have hat : dsAt fr (pg23 8) r27 0 = dW n f := by
    rw [dsAt, show dsPa r27 0 = 0 from rfl, if_pos o1, hrd, hD]
  have o2 : ownB fr.length (pg23 8) 320 (n : Int) = true := by rw [h.len]; exact own_any (by omega)
  have hc : chkC (dW n f) 4 = 0 := by
    rw [chkC, if_neg (by show ¬ 4 ≤ f; omega), if_neg (by show ¬ 64 < n; omega), if_neg (by show ¬ (f % 2 = 1 ∧ _); omega)]
  rw [lk, if_neg (by show ¬ ((0 : Int) < 0 ∨ ((4 : Nat) : Int) ≤ 0); decide), if_neg (by show ¬ ((4 : Nat) : Int) ≤ ((0 : Nat) : Int); decide), show dsPa r27 (0 : Int).toNat = 0 from rfl, if_neg (by rw [o1]; decide), show (0 : Int).toNat = 0 from rfl, hat, show (r27.n).toNat = 4 from rfl, if_neg (by rw [hc]; decide), if_neg (by rw [show (dW n f).addr = 320 from rfl, show (dW n f).len = n from rfl, o2]; decide), if_neg (by simp)]
theorem wk_W {n f p : Nat} {fr : List Frm} (hn : n ≤ 64) (hf : f = 0 ∨ f = 2) (hD : dsOf (putD (dW n f)) = dW n f) (h : WMem (dW n f) fr p) : wkAll fr (pg23 8) r27 0 = ([dW n f], 0) := by
  have hl := lk_W hn hf hD h
  have hlk : lkN fr (pg23 8) r27 0 0 = (dW n f, 0) := hl
  rw [wkAll, if_pos (by decide), wkGo_end (n := 0) (fun m hm => absurd hm (Nat.not_lt_zero _)) (by decide) (by rw [hlk]) (by rw [hlk, goB, decide_eq_false_iff_not]; show ¬ f % 2 = 1; omega)]
  rw [wkSt]
  show (([] ++ [(lkN fr (pg23 8) r27 0 0).1] : List Dsc), (0 : Int)) = _
  rw [hlk]; rfl
theorem tk_W {n f i j p : Nat} {fr : List Frm} (hn : n ≤ 64) (hf : f = 0 ∨ f = 2) (hD : dsOf (putD (dW n f)) = dW n f) (h : WMem (dW n f) fr p) (hp : p = i + j) (hj : 1 ≤ j ∧ j ≤ 4) (hi : i < 60000) (q : Nat) :
    tkR fr (pg23 8) (tq 4 i q) = (0, [dW n f], true, 0) ∧ tkS fr (pg23 8) (tq 4 i q) = tq 4 (i + 1) q := by
  have hm := Nat.mod_lt i (show 0 < 4 by omega)
  have k := hdT h.frs h.len (last := i) (n := 4) (by omega)
  rw [h.put, hp, show wtN i (i + j) = j by unfold wtN; omega, if_neg (by omega), if_neg (by omega), h.heads _ hm, if_neg (by omega)] at k
  obtain ⟨h1, h2⟩ := nx_tq (p := q) k
  have h1' : nxR fr (pg23 8) (tq 4 i q) = (0, true, 0) := h1
  have h2' : nxS fr (pg23 8) (tq 4 i q) = tq 4 (i + 1) q := h2.trans (by show tq 4 ((i + 1) % 65536) q = _; rw [Nat.mod_eq_of_lt (by omega)])
  have hL : tkL fr (pg23 8) (tq 4 i q) = ([dW n f], 0) := by
    rw [tkL, h1']; exact wk_W hn hf hD h
  constructor
  · rw [tkR, h1', hL, if_pos rfl, if_neg (by simp)]
  · rw [tkS, h1', hL, if_pos rfl, if_neg (by simp), h2']
theorem tk_W0 {D : Dsc} {i : Nat} {fr : List Frm} (h : WMem D fr i) (hi : i < 60000) (q : Nat) :
    tkR fr (pg23 8) (tq 4 i q) = (0, [], false, 0) ∧ tkS fr (pg23 8) (tq 4 i q) = tq 4 i q := by
  obtain ⟨h1, h2⟩ := stepT0 h.frs h.len (n := 4) (i := i) (p := q) (by omega) hi h.put
  constructor
  · rw [tkR, h1, if_neg (by decide)]
  · rw [tkS, h1, if_neg (by decide), h2]
end Go.Proofs.YtechkfopkpkigaaGreat
namespace Go.Proofs.YtechkfopkpkigaaGreat
open Go.RowKit
set_option linter.unusedSimpArgs false
set_option linter.unusedVariables false
set_option maxRecDepth 20000
@[reducible] def g27 (b1 b2 b3 b4 c n flags : Nat) (a : Option Addr) (bs : List Nat) : Gst := ⟨some ⟨b1, 0, none⟩, 1, [⟨320, n, flags, 0⟩], some ⟨b2, 0, none⟩, 1, [0], some ⟨b3, 0, none⟩, 1, [320], some ⟨b4, 0, none⟩, 1, [(a, c, bs)], 1⟩
@[reducible] def h27 (b1 b2 b3 b4 c n flags m : Nat) (a : Option Addr) (R : List HP) : List HP := pt b4 (cob [.slice a m c] 76) :: pt b3 (cob [.int .u32 320] 53) :: pt b2 (cob [.int .u8 0] 5) :: pt b1 (cob [.int .u32 320, .int .u32 n, .int .u32 flags, .int .u32 0] 99) :: R
theorem one27_spec (W0 : World) (R : List HP) (a : Option Addr) (c m n flags : Nat) (hn : n < 4294967296) :
    Spec Tryz.prog W0 41 [.slice a m c, .int .i64 n, .int .u32 flags] R
      (fun v B => ∃ b1 b2 b3 b4, v = .agg #[.slice (some ⟨b1, 0, none⟩) 1 1, .slice (some ⟨b2, 0, none⟩) 1 1, .slice (some ⟨b3, 0, none⟩) 1 1, .slice (some ⟨b4, 0, none⟩) 1 1, .int .u32 1] ∧ B = h27 b1 b2 b3 b4 c n flags m a R) := by
  refine spec_body Tryz.func41 Tryz.ntmps41 rfl rfl ?_
  refine x_seq ?_
  refine x_region ?_
  refine s_do rfl (d_allocA Tryz.zeroValue87) ?_
  rintro _ _ ⟨b0, rfl, rfl⟩
  refine x_nil ?_
  refine n_then ?_
  refine x_seq ?_
  refine x_region ?_
  refine s_val rfl (v_move rfl) ?_
  refine s_val rfl (v_conv Tryz.underlying3 Tryz.underlying53 rfl (w32u (by omega))) ?_
  refine s_val rfl (v_move rfl) ?_
  refine s_val rfl (v_build Tryz.underlying99 Tryz.zeroValue99 (sized_cons Tryz.sizeOf53 (sized_cons Tryz.sizeOf53 (sized_cons Tryz.sizeOf53 (sized_cons Tryz.sizeOf53 sized_nil)))) (fil_scal rfl Tryz.sizeOf53 rfl rfl (Nat.le_of_ble_eq_true rfl) SetL.eq (fil_scal rfl Tryz.sizeOf53 rfl rfl (Nat.le_of_ble_eq_true rfl) SetL.eq (fil_scal rfl Tryz.sizeOf53 rfl rfl (Nat.le_of_ble_eq_true rfl) SetL.eq fil_nil)))) ?_
  refine s_do rfl (d_sliceAgg Tryz.underlying43 Tryz.sizeOf99 Tryz.zeroValue99 rfl (elsK_cons rfl rfl elsK_nil) rfl (by decide) (by decide) (by decide)) ?_
  rintro _ _ ⟨b1, rfl, rfl⟩
  refine s_do rfl (d_sliceLit Tryz.underlying76 Tryz.sizeOf5 Tryz.zeroValue5 rfl rfl rfl rfl rfl (by decide) (by decide)) ?_
  rintro _ _ ⟨b2, rfl, rfl⟩
  refine s_do rfl (d_sliceLit Tryz.underlying84 Tryz.sizeOf53 Tryz.zeroValue53 rfl rfl rfl rfl rfl (by decide) (by decide)) ?_
  rintro _ _ ⟨b3, rfl, rfl⟩
  refine s_val rfl (v_move rfl) ?_
  refine s_do rfl (d_sliceLit Tryz.underlying85 Tryz.sizeOf76 Tryz.zeroValue76 rfl rfl rfl rfl rfl (by decide) (by decide)) ?_
  rintro _ _ ⟨b4, rfl, rfl⟩
  refine s_val rfl (v_build Tryz.underlying87 Tryz.zeroValue87 (sized_cons Tryz.sizeOf43 (sized_cons Tryz.sizeOf76 (sized_cons Tryz.sizeOf84 (sized_cons Tryz.sizeOf85 (sized_cons Tryz.sizeOf53 sized_nil))))) (fil_scal rfl Tryz.sizeOf43 rfl rfl (Nat.le_of_ble_eq_true rfl) SetL.eq (fil_scal rfl Tryz.sizeOf76 rfl rfl (Nat.le_of_ble_eq_true rfl) SetL.eq (fil_scal rfl Tryz.sizeOf84 rfl rfl (Nat.le_of_ble_eq_true rfl) SetL.eq (fil_scal rfl Tryz.sizeOf85 rfl rfl (Nat.le_of_ble_eq_true rfl) SetL.eq (fil_scal rfl Tryz.sizeOf53 rfl rfl (Nat.le_of_ble_eq_true rfl) SetL.eq fil_nil)))))) ?_
  refine s_do0 (d_storeAll Tryz.sizeOf87 rfl rfl rfl rfl rfl) ?_
  rintro _ _ rfl
  refine x_nil ?_
  refine n_then ?_
  refine x_ret ?_
  refine run_pt (b := b1) (o' := cob [.int .u32 320, .int .u32 n, .int .u32 flags, .int .u32 0] 99) rfl ?_
  refine x_done (.inl rfl) (.cons (r_all Tryz.isAgg87 Tryz.sizeOf87 rfl rfl) .nil) ?_
  exact ⟨_, ⟨b1, b2, b3, b4, rfl, rfl⟩, inferInstance⟩
theorem gok27 {W0 : World} {R : List HP} {b1 b2 b3 b4 c n flags m : Nat} {a : Option Addr} {bs : List Nat} (hm : bs.length = m) (hn : n < 4294967296) (hf : flags < 4294967296) (hs : SlA (OwnP W0 R) a 1 (fun x => [bV x]) bs) (hb : By bs) (hl : m < 9223372036854775808) :
    GOk (OwnP W0 (h27 b1 b2 b3 b4 c n flags m a R)) (g27 b1 b2 b3 b4 c n flags a bs) := by
  subst hm
  refine ⟨sla_cells (.inr ⟨b1, rfl⟩) (cells_all (b := b1)) (fun _ => rfl) rfl (by decide), fun d hd => ?_, sla_cells (.inr ⟨b2, rfl⟩) (cells_all (b := b2)) (fun _ => rfl) rfl (by decide), fun x hx => ?_,
    sla_cells (.inr ⟨b3, rfl⟩) (cells_all (b := b3)) (fun _ => rfl) rfl (by decide), fun x hx => ?_, sla_cells (.inr ⟨b4, rfl⟩) (cells_all (b := b4)) (fun _ => rfl) rfl (by decide), fun y hy => ?_, by show (1 : Nat) < _; decide, ⟨by show (1 : Nat) < _; decide, by show (1 : Nat) < _; decide, by show (1 : Nat) < _; decide, by show (1 : Nat) < _; decide⟩⟩
  · simp at hd; subst hd
    exact ⟨by show (320 : Nat) < _; decide, hn, hf, by show (0 : Nat) < _; decide⟩
  · simp at hx; subst hx; decide
  · simp at hx; subst hx; decide
  · simp at hy; subst hy
    exact ⟨hs.weak, hb, hl⟩
theorem mgA_cong {pg : List Pl} {g g' : Gst} (h1 : g.A = g'.A) (h2 : g.B.map (fun y => y.2.2) = g'.B.map (fun y => y.2.2)) : ∀ i, mgA pg g i = mgA pg g' i
  | 0 => rfl
  | i + 1 => by
    have e : ∀ l : List Bts, (l.getD i (none, 0, [])).2.2 = (l.map (fun y => y.2.2)).getD i [] := fun l => by
      simp only [List.getD, List.getElem?_map]
      cases l[i]? <;> rfl
    rw [mgA, mgA, mgA_cong h1 h2 i, h1, e, e, h2]
theorem mgD_cong {pg : List Pl} {g g' : Gst} (h1 : g.A = g'.A) (h2 : g.B.map (fun y => y.2.2) = g'.B.map (fun y => y.2.2)) (h3 : g.L = g'.L) : ∀ i, mgD pg g i = mgD pg g' i
  | 0 => by
    have hn : mgN g = mgN g' := by
      have := congrArg List.length h2
      rw [List.length_map, List.length_map] at this
      rw [mgN, mgN, this, h1]
    rw [mgD, mgD, hn]; exact mgA_cong h1 h2 _
  | i + 1 => by rw [mgD, mgD, mgD_cong h1 h2 h3 i, h3]
theorem mgH_cong {pg : List Pl} {g g' : Gst} (h1 : g.A = g'.A) (h2 : g.B.map (fun y => y.2.2) = g'.B.map (fun y => y.2.2)) (h3 : g.L = g'.L) (h4 : g.H = g'.H) : ∀ i, mgH pg g i = mgH pg g' i
  | 0 => by rw [mgH, mgH, h3]; exact mgD_cong h1 h2 h3 _
  | i + 1 => by rw [mgH, mgH, mgH_cong h1 h2 h3 h4 i, h4]
theorem mk27_cong {g g' : Gst} (h1 : g.A = g'.A) (h2 : g.B.map (fun y => y.2.2) = g'.B.map (fun y => y.2.2)) (h3 : g.L = g'.L) (h4 : g.H = g'.H) (h5 : g.p = g'.p) : mk27 g = mk27 g' := by
  rw [mk27, mk27, mgP, mgP, mgH_cong h1 h2 h3 h4, h4, h5]
@[reducible] def sv27 (x : List Frm × Nat) (ps : List Prt) : SvS := ⟨x.1, x.2, q27, ps, 0, 0, 0, 0⟩
def aw27Y : SvS := svGo true (pg23 8) 0 4 (sv27 (mk27 (g27 0 0 0 0 0 5 0 none [1, 0, 0, 0, 97])) (newP [(0, 0), (1, 1)]))
theorem aw27 : aw27Y.c = 1 ∧ aw27Y.n = 1 ∧ aw27Y.b = 5 ∧ aw27Y.w = 0 ∧ tkB aw27Y.ps 1 = true ∧ bL (tkV aw27Y.ps 1) = [97] := by decide +kernel
theorem nicTx27 (W0 : World) (R : List HP) (bq p pv ps_ pm : Nat) (port : Int) (x : List Frm × Nat) (hx : Mem8 x) (ps : List Prt) (hp : PrS ps) :
    Spec Tryz.prog W0 42 [.pointer (some ⟨pv, 0, none⟩), .pointer (some ⟨bq, 0, none⟩), .pointer (some ⟨p, 0, none⟩), .int .i64 port]
      (pt bq (qO true q27) :: pt pv (viO ps_ pm x.2) :: stoH ps_ x.1 :: pt pm (gmO (pg23 8)) :: portsH p ps :: R)
      (fun v B => ∃ y, y = svGo true (pg23 8) port 4 (sv27 x ps) ∧ v = .agg (SvS.v y).toArray ∧ B = pt bq (qO true y.s) :: pt pv (viO ps_ pm y.d) :: stoH ps_ y.fr :: pt pm (gmO (pg23 8)) :: portsH p y.ps :: R) :=
  nicTx_spec W0 R bq p pv ps_ pm (pg23 8) (pg23_ok 8) port x.1 x.2 0 128 192 4 0 0 true 0 ps (by decide) r27_ok 8 (sv_start q27_ok rfl hx.1 hx.2.1 hx.2.2 hp)
theorem nicRx27 (W0 : World) (R : List HP) (bq p pv ps_ pm : Nat) (port : Int) (x : List Frm × Nat) (hx : Mem8 x) (ps : List Prt) (hp : PrS ps) :
    Spec Tryz.prog W0 43 [.pointer (some ⟨pv, 0, none⟩), .pointer (some ⟨bq, 0, none⟩), .pointer (some ⟨p, 0, none⟩), .int .i64 port]
      (pt bq (qO true q27) :: pt pv (viO ps_ pm x.2) :: stoH ps_ x.1 :: pt pm (gmO (pg23 8)) :: portsH p ps :: R)
      (fun v B => ∃ y, y = svGo false (pg23 8) port 4 (sv27 x ps) ∧ v = .agg (SvS.v y).toArray ∧ B = pt bq (qO true y.s) :: pt pv (viO ps_ pm y.d) :: stoH ps_ y.fr :: pt pm (gmO (pg23 8)) :: portsH p y.ps :: R) :=
  nicRx_spec W0 R bq p pv ps_ pm (pg23 8) (pg23_ok 8) port x.1 x.2 0 128 192 4 0 0 true 0 ps (by decide) r27_ok 8 (sv_start q27_ok rfl hx.1 hx.2.1 hx.2.2 hp)
theorem awake27_spec (W0 : World) (R : List HP) : Spec Tryz.prog W0 38 [] R (fun v B => v = .bool true ∧ B = R) := by
  refine spec_body Tryz.func38 Tryz.ntmps38 rfl rfl ?_
  refine x_seq ?_
  refine x_region ?_
  refine s_val rfl (v_assign rfl) ?_
  refine x_nil ?_
  refine n_then ?_
  refine x_seq ?_
  refine x_region ?_
  refine s_do rfl (d_sliceLit Tryz.underlying76 Tryz.sizeOf5 Tryz.zeroValue5 rfl rfl rfl rfl rfl (by decide) (by decide)) ?_
  rintro _ _ ⟨b9, rfl, rfl⟩
  refine s_do rfl (d_call Tryz.call41 rfl (one27_spec W0 _ (some ⟨b9, 0, none⟩) 5 5 5 0 (by decide))) ?_
  rintro _ B_ ⟨b1, b2, b3, b4, rfl, hB_⟩
  obtain rfl := hB_.symm
  refine s_do rfl (d_call Tryz.call40 rfl (made27_spec W0 _ (g27 b1 b2 b3 b4 5 5 0 (some ⟨b9, 0, none⟩) [1, 0, 0, 0, 97]) (gok27 rfl (by decide) (by decide) (sla_cells (.inr ⟨b9, rfl⟩) (cells_all (b := b9)) (fun _ => rfl) rfl (by decide)) (fun x hx => by simp at hx; omega) (by decide)) fit27)) ?_
  rintro _ B_ ⟨pv, ps, pm, qv, qs, qm, bq, br, rfl, hB_⟩
  obtain rfl := hB_.symm
  have hM := mk27_ok (g27 b1 b2 b3 b4 5 5 0 (some ⟨b9, 0, none⟩) [1, 0, 0, 0, 97])
  have hE : mk27 (g27 b1 b2 b3 b4 5 5 0 (some ⟨b9, 0, none⟩) [1, 0, 0, 0, 97]) = mk27 (g27 0 0 0 0 0 5 0 none [1, 0, 0, 0, 97]) := mk27_cong rfl rfl rfl rfl rfl
  rw [hE] at hM ⊢
  obtain ⟨x, hx⟩ : ∃ x, mk27 (g27 0 0 0 0 0 5 0 none [1, 0, 0, 0, 97]) = x := ⟨_, rfl⟩
  have hA := aw27
  rw [aw27Y, hx] at hA
  rw [hx] at hM ⊢
  refine s_val rfl (v_move rfl) ?_
  refine s_val rfl (v_extract rfl rfl) ?_
  refine s_val rfl (v_extract rfl rfl) ?_
  refine s_val rfl (v_extract rfl rfl) ?_
  refine s_val rfl (v_extract rfl rfl) ?_
  refine s_val rfl (v_assign rfl) ?_
  refine s_val rfl (v_assign rfl) ?_
  refine s_val rfl (v_assign rfl) ?_
  refine s_val rfl (v_assign rfl) ?_
  refine x_nil ?_
  refine n_then ?_
  refine x_seq ?_
  refine x_region ?_
  refine s_val rfl (v_build Tryz.underlying81 Tryz.zeroValue81 (sized_cons Tryz.sizeOf3 (sized_cons Tryz.sizeOf3 sized_nil)) (fil_scal rfl Tryz.sizeOf3 rfl rfl (Nat.le_of_ble_eq_true rfl) SetL.eq fil_nil)) ?_
  refine s_val rfl (v_build Tryz.underlying81 Tryz.zeroValue81 (sized_cons Tryz.sizeOf3 (sized_cons Tryz.sizeOf3 sized_nil)) (fil_scal rfl Tryz.sizeOf3 rfl rfl (Nat.le_of_ble_eq_true rfl) SetL.eq (fil_scal rfl Tryz.sizeOf3 rfl rfl (Nat.le_of_ble_eq_true rfl) SetL.eq fil_nil))) ?_
  refine s_do rfl (d_sliceAgg Tryz.underlying24 Tryz.sizeOf81 Tryz.zeroValue81 rfl (elsK_cons rfl rfl (elsK_cons rfl rfl elsK_nil)) rfl (by decide) (by decide) (by decide)) ?_
  rintro _ _ ⟨bl, rfl, rfl⟩
  refine s_do rfl (d_call Tryz.call39 rfl (prNew_spec W0 _ [(0, 0), (1, 1)] (some ⟨bl, 0, none⟩) 2 2 rfl (by decide) (sla_cells (.inr ⟨bl, rfl⟩) (cells_all (b := bl)) (fun _ => rfl) rfl (by decide)) (by decide))) ?_
  rintro _ B_ ⟨p, rfl, hB_⟩
  obtain rfl := hB_.symm
  refine s_val rfl (v_move rfl) ?_
  refine s_val rfl (v_extract rfl rfl) ?_
  refine s_val rfl (v_extract rfl rfl) ?_
  refine s_val rfl (v_assign rfl) ?_
  refine s_val rfl (v_assign rfl) ?_
  refine x_nil ?_
  refine n_then ?_
  refine x_seq ?_
  refine x_seq ?_
  refine x_region ?_
  refine s_val rfl (v_move rfl) ?_
  refine s_val rfl (v_eql_ptr_nil Tryz.underlying45 rfl rfl) ?_
  refine s_val rfl (v_move rfl) ?_
  refine s_or rfl rfl rfl ?_ ?_
  · intro g3_3
    cases g3_3
  · intro g3_3
    refine s_val rfl (v_move rfl) ?_
    refine s_yes rfl rfl ?_
    refine s_val rfl (v_move rfl) ?_
    refine s_yes rfl rfl ?_
    refine s_val rfl (v_move rfl) ?_
    refine s_yes rfl rfl ?_
    refine s_do rfl (d_call5 Tryz.call42 rfl (nicTx27 W0 _ bq p pv ps pm 0 x hM _ (newP_okS (by decide)))) ?_
    rintro _ B_ ⟨y, hy, rfl, hB_⟩
    obtain rfl := hB_.symm
    rw [← hy] at hA
    have hyo := svGo_ok (tx := true) (pg := pg23 8) (port := 0) 4 (sv_start q27_ok rfl hM.1 hM.2.1 hM.2.2 (newP_okS (l := [(0, 0), (1, 1)]) (by decide)))
    rw [← hy] at hyo
    obtain ⟨h1, h2, h3, h4, h5, h6⟩ := hA
    have hv : SvS.v y = [.int .i64 1, .int .i64 1, .int .i64 5, .int .i64 0] := by rw [SvS.v, h1, h2, h3, h4]; rfl
    rw [hv]
    refine s_yes rfl rfl ?_
    refine s_val rfl (v_build Tryz.underlying90 Tryz.zeroValue90 (sized_cons Tryz.sizeOf3 (sized_cons Tryz.sizeOf3 (sized_cons Tryz.sizeOf3 (sized_cons Tryz.sizeOf3 sized_nil)))) (fil_scal rfl Tryz.sizeOf3 rfl rfl (Nat.le_of_ble_eq_true rfl) SetL.eq (fil_scal rfl Tryz.sizeOf3 rfl rfl (Nat.le_of_ble_eq_true rfl) SetL.eq (fil_scal rfl Tryz.sizeOf3 rfl rfl (Nat.le_of_ble_eq_true rfl) SetL.eq fil_nil)))) ?_
    refine s_yes rfl rfl ?_
    refine s_val rfl (v_neq_agg Tryz.eqGuardType90 rfl rfl (q_struct Tryz.underlying90 Tryz.stoodInHeld90 (qf_scal rfl Tryz.isAgg3 rfl rfl (q_int Tryz.underlying3) (qf_scal rfl Tryz.isAgg3 rfl rfl (q_int Tryz.underlying3) (qf_scal rfl Tryz.isAgg3 rfl rfl (q_int Tryz.underlying3) (qf_scal rfl Tryz.isAgg3 rfl rfl (q_int Tryz.underlying3) qf_nil)))))) ?_
    refine s_val rfl (v_pick_f rfl rfl) ?_
    refine x_nil ?_
    refine n_then ?_
    refine x_if rfl ?_ ?_
    · intro c3
      exact absurd c3 (by decide)
    · intro c3
      refine x_skip ?_
      refine n_then ?_
      refine x_seq ?_
      refine x_region ?_
      refine s_val rfl (v_move rfl) ?_
      refine s_do rfl (d_call1 Tryz.call112 rfl (prTake_spec W0 _ p y.ps hyo.ps.1 1)) ?_
      rintro _ B_ ⟨rfl, hB_⟩
      obtain rfl := hB_.symm
      refine s_val rfl (v_move rfl) ?_
      refine s_val rfl (v_extract rfl rfl) ?_
      refine s_val rfl (v_extract rfl rfl) ?_
      refine s_val rfl (v_assign rfl) ?_
      refine s_val rfl (v_assign rfl) ?_
      refine x_nil ?_
      refine n_then ?_
      refine x_seq ?_
      have h7 : tkV y.ps 1 = ⟨#[97]⟩ := by rw [← strB_bL (tkV y.ps 1), h6]; rfl
      have h8 : ((tkV y.ps 1).toList == (⟨#[97]⟩ : ByteArray).toList) = true := by rw [h7]; exact beq_self_eq_true _
      refine x_region ?_
      refine s_val rfl (v_move rfl) ?_
      refine s_val rfl (v_eql_str rfl rfl) ?_
      refine s_val rfl (v_move rfl) ?_
      refine s_and rfl rfl rfl ?_ ?_
      · intro g6_3
        refine s_val rfl (v_move rfl) ?_
        refine s_val rfl (v_pick_t rfl rfl) ?_
        refine s_val rfl (v_assign rfl) ?_
        refine x_nil ?_
        refine n_then ?_
        refine x_ret ?_
        refine x_done (.inl rfl) (.cons (r_tmp rfl) .nil) ?_
        refine ⟨_, ⟨?_, rfl⟩, inferInstance⟩
        rw [h5]; rfl
      · intro g6_3
        exact absurd h8 g6_3
end Go.Proofs.YtechkfopkpkigaaGreat
