/-
  Layer 18 (stlb): what its exported functions come to.
-/
import Derived.Test.YtechkfopkpkigaaStlbB
namespace Go.Proofs.Ytechkfopkpkigaa
open Go.RowKit
set_option linter.unusedSimpArgs false
set_option linter.unusedVariables false
set_option maxRecDepth 20000

@[reducible] def keyV (k : Int × Int) : List Value := [.int .i64 k.1, .int .i64 k.2]
@[reducible] def entV (e : Int × Int × Int) : List Value := [.int .i64 e.1, .int .i64 e.2.1, .int .i64 e.2.2]

theorem at1_spec (W0 : World) (R : List HP) (x : It) (bk : Nat) (k : Int × Int) :
    Spec Try.prog W0 144 [.agg (itemV x).toArray, .pointer (some ⟨bk, 0, none⟩)] (pt bk (cob (keyV k) 73) :: R) (fun v B => v = .bool (decide (x.key = k)) ∧ B = pt bk (cob (keyV k) 73) :: R) := by
  refine spec_body Try.func144 Try.ntmps144 rfl rfl ?_
  refine x_seq ?_
  refine x_region ?_
  refine s_do rfl (d_boxA rfl) ?_
  rintro _ _ ⟨b1, rfl, rfl⟩
  refine s_val rfl (v_assign rfl) ?_
  refine x_nil ?_
  refine n_then ?_
  refine x_seq ?_
  refine x_region ?_
  refine s_val rfl (v_fieldAddr rfl Try.underlying171 rfl Try.sizeOf80 rfl (by first | exact Nat.zero_add _ | rfl)) ?_
  refine s_val rfl (v_fieldAddr rfl Try.underlying80 rfl Try.sizeOf73 rfl (by first | exact Nat.zero_add _ | rfl)) ?_
  refine s_val rfl (v_loadAgg Try.isAgg73 Try.sizeOf73 rfl (cells_part (vs := [.int .i64 x.kr, .int .i64 x.kp]) rfl rfl) rfl) ?_
  refine s_val rfl (v_loadAgg Try.isAgg73 Try.sizeOf73 rfl (cells_part (vs := [.int .i64 k.1, .int .i64 k.2]) rfl rfl) rfl) ?_
  refine s_val rfl (v_eql_agg Try.eqGuardType73 rfl rfl (q_struct Try.underlying73 Try.stoodInHeld73 (qf_scal rfl Try.isAgg3 rfl rfl (q_int Try.underlying3) (qf_scal rfl Try.isAgg3 rfl rfl (q_int Try.underlying3) qf_nil)))) ?_
  refine s_val rfl (v_assign rfl) ?_
  refine x_nil ?_
  refine n_then ?_
  refine x_ret ?_
  refine x_done (.inl rfl) (.cons (r_tmp rfl) .nil) ?_
  refine ⟨_, ⟨?_, rfl⟩, inferInstance⟩
  simp [pack, It.key, Prod.ext_iff]; rw [Bool.eq_iff_iff]; simp

def Found (its : List It) (k : Int × Int) (r : Int) : Prop := (r = -1 ∧ ∀ x ∈ its, x.key ≠ k) ∨ ∃ i : Nat, r = (i : Int) ∧ i < its.length ∧ (its.getD i default).key = k
theorem found_none {its : List It} {k : Int × Int} (h : ∀ i, i < its.length → (its.getD i default).key ≠ k) : ∀ x ∈ its, x.key ≠ k := fun x hx => by
  obtain ⟨c, hc, rfl⟩ := List.mem_iff_getElem.1 hx
  have := h c hc
  simpa [List.getD, hc] using this
theorem indexF_spec (W0 : World) (R : List HP) (its : List It) (a : Option Addr) (c bk : Nat) (k : Int × Int) (hN : its.length < 1000) :
    Spec Try.prog W0 143 [.slice a its.length c, .func (.func 144) #[] #[.pointer (some ⟨bk, 0, none⟩)]]
      (osl 171 6 (.slice a its.length c) (its.flatMap itemV) :: pt bk (cob (keyV k) 73) :: R)
      (fun v B => ∃ r, v = .int .i64 r ∧ B = osl 171 6 (.slice a its.length c) (its.flatMap itemV) :: pt bk (cob (keyV k) 73) :: R ∧ Found its k r) := by
  refine spec_osl (fun h1 h2 => ?_) fun g n cap sp h1 h2 h3 h4 h5 => ?_
  · have h0 : its.length = 0 := by have := flat_len itemV_len its; rw [h2] at this; simp at this; omega
    obtain rfl : its = [] := List.eq_nil_of_length_eq_zero h0
    cases h1
    refine spec_body Try.func143 Try.ntmps143 rfl rfl ?_
    refine x_seq ?_
    refine x_region ?_
    refine s_val rfl (v_assign rfl) ?_
    refine x_nil ?_
    refine n_then ?_
    refine x_seq ?_
    refine x_seq ?_
    refine x_region ?_
    refine s_val rfl (v_move rfl) ?_
    refine s_val rfl (v_len_slice Try.underlying83 rfl) ?_
    refine s_val rfl (v_move rfl) ?_
    refine x_nil ?_
    refine n_then ?_
    refine x_block ?_
    refine x_loop (fun X : Nat => True) (fun X => [(7, .int .i64 0), (8, .int .i64 X)]) (fun X => pt bk (cob (keyV k) 73) :: R) (fun X => X) 0 ?_ ?_ ?_ ?_
    · trivial
    · repeat (first | exact sub_nil | refine sub_cons rfl ?_)
    · exact inferInstance
    · intro j hj
      refine x_seq ?_
      refine x_region ?_
      refine s_val rfl (v_lss rfl rfl) ?_
      refine x_nil ?_
      refine n_then ?_
      refine x_seq ?_
      refine x_if rfl ?_ ?_
      · intro c2
        omega
      · intro c2
        refine x_exit ?_
        refine e_then ?_
        refine e_then ?_
        refine e_block ?_
        refine n_then ?_
        refine x_seq ?_
        refine x_region ?_
        refine s_val rfl (v_assign rfl) ?_
        refine x_nil ?_
        refine n_then ?_
        refine x_ret ?_
        refine x_done (.inl rfl) (.cons (r_tmp rfl) .nil) ?_
        exact ⟨_, ⟨-1, rfl, rfl, .inl ⟨rfl, by simp⟩⟩, ent_osl_nil⟩
  · cases h1
    refine spec_body Try.func143 Try.ntmps143 rfl rfl ?_
    refine x_seq ?_
    refine x_region ?_
    refine s_val rfl (v_assign rfl) ?_
    refine x_nil ?_
    refine n_then ?_
    refine x_seq ?_
    refine x_seq ?_
    refine x_region ?_
    refine s_val rfl (v_move rfl) ?_
    refine s_val rfl (v_len_slice Try.underlying83 rfl) ?_
    refine s_val rfl (v_move rfl) ?_
    refine x_nil ?_
    refine n_then ?_
    refine x_block ?_
    refine x_loop (fun X : Nat => X ≤ its.length ∧ ∀ i, i < X → (its.getD i default).key ≠ k) (fun X => [(0, .slice (some ⟨g, 0, none⟩) its.length c), (1, .func (.func 144) #[] #[.pointer (some ⟨bk, 0, none⟩)]), (7, .int .i64 (its.length : Nat)), (8, .int .i64 X)]) (fun X => pt g (cob (its.flatMap itemV ++ sp) 171) :: pt bk (cob (keyV k) 73) :: R) (fun X => its.length - X) 0 ?_ ?_ ?_ ?_
    · exact ⟨Nat.zero_le _, fun i h => absurd h (Nat.not_lt_zero _)⟩
    · repeat (first | exact sub_nil | refine sub_cons rfl ?_)
    · exact inferInstance
    · intro j ⟨hj, hno⟩
      refine x_seq ?_
      refine x_region ?_
      refine s_val rfl (v_lss rfl rfl) ?_
      refine x_nil ?_
      refine n_then ?_
      refine x_seq ?_
      refine x_if rfl ?_ ?_
      · intro c2
        refine x_skip ?_
        refine n_then ?_
        refine x_seq ?_
        refine x_block ?_
        refine x_seq ?_
        refine x_region ?_
        refine s_val rfl (v_move rfl) ?_
        refine s_val rfl (v_assign rfl) ?_
        refine x_nil ?_
        refine n_then ?_
        refine x_seq ?_
        refine x_region ?_
        refine s_val rfl (v_move rfl) ?_
        refine s_val rfl (v_move rfl) ?_
        refine s_val rfl (v_move rfl) ?_
        refine s_val rfl (v_idx Try.underlying83 Try.sizeOf171 rfl rfl rfl (by omega) (by first | exact Nat.zero_add _ | rfl)) ?_
        refine s_val rfl (v_loadAgg Try.isAgg171 Try.sizeOf171 rfl (cells_part (item_row its sp j (by omega)) rfl) rfl) ?_
        refine s_do rfl (d_callv1 rfl Try.call144 rfl (at1_spec W0 _ (its.getD j default) bk k)) ?_
        rintro _ B_ ⟨rfl, hB_⟩
        obtain rfl := hB_.symm
        refine x_nil ?_
        refine n_then ?_
        refine x_if rfl ?_ ?_
        · intro c4
          replace c4 : (its.getD j default).key = k := by simpa using c4
          refine x_seq ?_
          refine x_region ?_
          refine s_val rfl (v_move rfl) ?_
          refine s_val rfl (v_assign rfl) ?_
          refine x_nil ?_
          refine n_then ?_
          refine x_ret ?_
          refine r_block ?_
          refine r_then ?_
          refine r_then ?_
          refine r_block ?_
          refine r_then ?_
          refine x_done (.inl rfl) (.cons (r_tmp rfl) .nil) ?_
          exact ⟨_, ⟨_, rfl, rfl, .inr ⟨j, rfl, by omega, c4⟩⟩, ent_osl h2 h3 h4 h5⟩
        · intro c4
          refine x_skip ?_
          refine n_block ?_
          refine n_then ?_
          refine x_region ?_
          refine s_val rfl (v_add rfl rfl (by first | exact w64 (by omega) | rfl)) ?_
          refine s_val rfl (v_move rfl) ?_
          refine x_nil ?_
          refine n_then ?_
          refine inv_intro (j + 1) ?_ ?_ ?_ ?_
          · refine ⟨by omega, fun i hi => ?_⟩
            by_cases e : i = j
            · subst e; simpa using c4
            · exact hno i (by omega)
          · omega
          · repeat (first | exact sub_nil | refine sub_cons rfl ?_)
          · exact inferInstance
      · intro c2
        refine x_exit ?_
        refine e_then ?_
        refine e_then ?_
        refine e_block ?_
        refine n_then ?_
        refine x_seq ?_
        refine x_region ?_
        refine s_val rfl (v_assign rfl) ?_
        refine x_nil ?_
        refine n_then ?_
        refine x_ret ?_
        refine x_done (.inl rfl) (.cons (r_tmp rfl) .nil) ?_
        exact ⟨_, ⟨-1, rfl, rfl, .inl ⟨rfl, found_none fun i hi => hno i (by omega)⟩⟩, ent_osl h2 h3 h4 h5⟩

theorem none_spec (W0 : World) (R : List HP) (b : Nat) (its : List It) (rm nw : Value) :
    Spec Try.prog W0 86 [.pointer (some ⟨b, 0, none⟩)] (rowH b (its, [rm, nw, .bool true]) :: R) (fun v B => v = .bool false ∧ B = rowH b (its, [rm, nw, .bool true]) :: R) := by
  refine spec_row fun a c => ?_
  refine spec_body Try.func86 Try.ntmps86 rfl rfl ?_
  refine x_seq ?_
  refine x_region ?_
  refine s_val rfl (v_assign rfl) ?_
  refine x_nil ?_
  refine n_then ?_
  refine x_seq ?_
  refine x_region ?_
  refine s_val rfl (v_move rfl) ?_
  refine s_val rfl (v_eql_ptr_nil Try.underlying68 rfl rfl) ?_
  refine s_val rfl (v_move rfl) ?_
  refine s_or rfl rfl rfl ?_ ?_
  · intro g1_3
    cases g1_3
  · intro g1_3
    refine s_val rfl (v_move rfl) ?_
    refine s_yes rfl rfl ?_
    refine s_val rfl (v_nilCheck rfl) ?_
    refine s_yes rfl rfl ?_
    refine s_val rfl (v_fieldAddr rfl Try.underlying87 rfl Try.sizeOf4 rfl (by first | exact Nat.zero_add _ | rfl)) ?_
    refine s_yes rfl rfl ?_
    refine s_val rfl (v_load Try.isAgg4 rfl (cell_own rfl)) ?_
    refine s_yes rfl rfl ?_
    refine s_val rfl (v_not rfl) ?_
    refine s_val rfl (v_pick_f rfl rfl) ?_
    refine s_val rfl (v_assign rfl) ?_
    refine x_nil ?_
    refine n_then ?_
    refine x_ret ?_
    refine x_done (.inl rfl) (.cons (r_tmp rfl) .nil) ?_
    exact ⟨_, ⟨by simp [pack], rfl⟩, ent_row rfl⟩
theorem tickP_spec (W0 : World) (R : List HP) (b : Nat) (v0 rm : Value) (now : Nat) (hn : now < 1000000) :
    Spec Try.prog W0 87 [.pointer (some ⟨b, 0, none⟩)] (pt b (cob [v0, rm, .int .i64 now, .bool true] 87) :: R) (fun v B => v = .int .i64 (now + 1 : Nat) ∧ B = pt b (cob [v0, rm, .int .i64 (now + 1 : Nat), .bool true] 87) :: R) := by
  refine spec_body Try.func87 Try.ntmps87 rfl rfl ?_
  refine x_seq ?_
  refine x_region ?_
  refine s_val rfl (v_assign rfl) ?_
  refine x_nil ?_
  refine n_then ?_
  refine x_seq ?_
  refine x_region ?_
  refine s_val rfl (v_move rfl) ?_
  refine s_val rfl (v_nilCheck rfl) ?_
  refine s_val rfl (v_fieldAddr rfl Try.underlying87 rfl Try.sizeOf3 rfl (by first | exact Nat.zero_add _ | rfl)) ?_
  refine s_val rfl (v_load Try.isAgg3 rfl (cell_own rfl)) ?_
  refine s_val rfl (v_add rfl rfl (by rw [w64 (by omega)]; omega : IntKind.wrap .i64 ((now : Int) + 1) = ((now + 1 : Nat) : Int))) ?_
  refine s_val rfl (v_nilCheck rfl) ?_
  refine s_val rfl (v_fieldAddr rfl Try.underlying87 rfl Try.sizeOf3 rfl (by first | exact Nat.zero_add _ | rfl)) ?_
  refine s_do0 (d_store Try.sizeOf3 rfl rfl rfl (Nat.le_of_ble_eq_true rfl) SetL.eq) ?_
  rintro _ _ rfl
  refine x_nil ?_
  refine n_then ?_
  refine x_seq ?_
  refine x_region ?_
  refine s_val rfl (v_move rfl) ?_
  refine s_val rfl (v_nilCheck rfl) ?_
  refine s_val rfl (v_fieldAddr rfl Try.underlying87 rfl Try.sizeOf3 rfl (by first | exact Nat.zero_add _ | rfl)) ?_
  refine s_val rfl (v_load Try.isAgg3 rfl (cell_own rfl)) ?_
  refine s_val rfl (v_assign rfl) ?_
  refine x_nil ?_
  refine n_then ?_
  refine x_ret ?_
  refine x_done (.inl rfl) (.cons (r_tmp rfl) .nil) ?_
  exact ⟨_, ⟨rfl, rfl⟩, inferInstance⟩
theorem tick_spec (W0 : World) (R : List HP) (b : Nat) (its : List It) (rm : Value) (now : Nat) (hn : now < 1000000) :
    Spec Try.prog W0 87 [.pointer (some ⟨b, 0, none⟩)] (rowH b (its, [rm, .int .i64 now, .bool true]) :: R) (fun v B => v = .int .i64 (now + 1 : Nat) ∧ B = rowH b (its, [rm, .int .i64 (now + 1 : Nat), .bool true]) :: R) := by
  refine spec_row fun a c => spec_post (tickP_spec W0 _ b _ rm now hn) ?_
  rintro _ _ ⟨rfl, rfl⟩
  exact ⟨_, ⟨rfl, rfl⟩, ent_row rfl⟩
theorem at_spec (W0 : World) (R : List HP) (b : Nat) (its : List It) (tl : List Value) (k : Int × Int) (hN : its.length < 1000) :
    Spec Try.prog W0 88 [.pointer (some ⟨b, 0, none⟩), .agg (keyV k).toArray] (rowH b (its, tl) :: R) (fun v B => ∃ r, v = .int .i64 r ∧ B = rowH b (its, tl) :: R ∧ Found its k r) := by
  refine spec_row fun a c => ?_
  refine spec_body Try.func88 Try.ntmps88 rfl rfl ?_
  refine x_seq ?_
  refine x_region ?_
  refine s_do rfl (d_boxA rfl) ?_
  rintro _ _ ⟨b1, rfl, rfl⟩
  refine s_val rfl (v_assign rfl) ?_
  refine x_nil ?_
  refine n_then ?_
  refine x_seq ?_
  refine x_region ?_
  refine s_val rfl (v_move rfl) ?_
  refine s_val rfl (v_nilCheck rfl) ?_
  refine s_val rfl (v_fieldAddr rfl Try.underlying87 rfl Try.sizeOf85 rfl (by first | exact Nat.zero_add _ | rfl)) ?_
  refine s_val rfl (v_fieldAddr rfl Try.underlying85 rfl Try.sizeOf83 rfl (by first | exact Nat.zero_add _ | rfl)) ?_
  refine s_val rfl (v_load Try.isAgg83 rfl (cell_own rfl)) ?_
  refine s_val rfl (v_mkFunc rfl rfl) ?_
  refine s_do rfl (d_call2 Try.call143 rfl (indexF_spec W0 _ its a c b1 k hN)) ?_
  rintro _ _ ⟨r, rfl, rfl, hf⟩
  refine s_val rfl (v_assign rfl) ?_
  refine x_nil ?_
  refine n_then ?_
  refine x_ret ?_
  refine x_done (.inl rfl) (.cons (r_tmp rfl) .nil) ?_
  exact ⟨_, ⟨r, rfl, rfl, hf⟩, ent_row rfl⟩
theorem Len_spec (W0 : World) (R : List HP) (b : Nat) (its : List It) (rm nw : Value) :
    Spec Try.prog W0 33 [.pointer (some ⟨b, 0, none⟩)] (rowH b (its, [rm, nw, .bool true]) :: R) (fun v B => v = .int .i64 (its.length : Nat) ∧ B = rowH b (its, [rm, nw, .bool true]) :: R) := by
  refine spec_body Try.func33 Try.ntmps33 rfl rfl ?_
  refine x_seq ?_
  refine x_region ?_
  refine s_val rfl (v_assign rfl) ?_
  refine x_nil ?_
  refine n_then ?_
  refine x_seq ?_
  refine x_seq ?_
  refine x_region ?_
  refine s_val rfl (v_move rfl) ?_
  refine s_do rfl (d_call1 Try.call86 rfl (none_spec W0 _ b its rm nw)) ?_
  rintro _ B_ ⟨rfl, hB_⟩
  obtain rfl := hB_.symm
  refine x_nil ?_
  refine n_then ?_
  refine x_if rfl ?_ ?_
  · intro c1
    exact absurd c1 (by decide)
  · intro c1
    refine x_skip ?_
    refine n_then ?_
    refine x_seq ?_
    refine x_region ?_
    refine s_val rfl (v_move rfl) ?_
    refine s_val rfl (v_nilCheck rfl) ?_
    refine s_val rfl (v_fieldAddr rfl Try.underlying87 rfl Try.sizeOf85 rfl (by first | exact Nat.zero_add _ | rfl)) ?_
    refine s_do rfl (d_call1 Try.call91 rfl (rowLen_spec W0 _ b its [rm, nw, .bool true])) ?_
    rintro _ B_ ⟨rfl, hB_⟩
    obtain rfl := hB_.symm
    refine s_val rfl (v_assign rfl) ?_
    refine x_nil ?_
    refine n_then ?_
    refine x_ret ?_
    refine x_done (.inl rfl) (.cons (r_tmp rfl) .nil) ?_
    exact ⟨_, ⟨rfl, rfl⟩, inferInstance⟩
theorem New_spec (W0 : World) (R : List HP) (room : Nat) (h : room ≤ 4) :
    Spec Try.prog W0 28 [.int .i64 room] R (fun v B => ∃ b, v = .tuple #[.pointer (some ⟨b, 0, none⟩), .int .i64 0] ∧ B = rowH b ([], [.int .i64 room, .int .i64 0, .bool true]) :: R) := by
  refine spec_body Try.func28 Try.ntmps28 rfl rfl ?_
  refine x_seq ?_
  refine x_region ?_
  refine s_val rfl (v_assign rfl) ?_
  refine s_val rfl (v_assign rfl) ?_
  refine x_nil ?_
  refine n_then ?_
  refine x_seq ?_
  refine x_seq ?_
  refine x_region ?_
  refine s_val rfl (v_move rfl) ?_
  refine s_val rfl (v_lss rfl rfl) ?_
  refine s_val rfl (v_move rfl) ?_
  refine s_or rfl rfl rfl ?_ ?_
  · intro g1_3
    omega
  · intro g1_3
    refine s_val rfl (v_move rfl) ?_
    refine s_yes rfl rfl ?_
    refine s_val rfl (v_gtr rfl rfl) ?_
    refine s_val rfl (v_pick_f rfl rfl) ?_
    refine x_nil ?_
    refine n_then ?_
    refine x_if rfl ?_ ?_
    · intro c1
      omega
    · intro c1
      refine x_skip ?_
      refine n_then ?_
      refine x_seq ?_
      refine x_region ?_
      refine s_val rfl (v_move rfl) ?_
      refine s_val rfl (v_build Try.underlying87 Try.zeroValue87 (sized_cons Try.sizeOf85 (sized_cons Try.sizeOf3 (sized_cons Try.sizeOf3 (sized_cons Try.sizeOf4 sized_nil)))) (fil_scal rfl Try.sizeOf3 rfl rfl (Nat.le_of_ble_eq_true rfl) SetL.eq (fil_scal rfl Try.sizeOf4 rfl rfl (Nat.le_of_ble_eq_true rfl) SetL.eq fil_nil))) ?_
      refine s_do rfl (d_boxA rfl) ?_
      rintro _ _ ⟨b1, rfl, rfl⟩
      refine s_val rfl (v_assign rfl) ?_
      refine s_val rfl (v_assign rfl) ?_
      refine x_nil ?_
      refine n_then ?_
      refine x_ret ?_
      refine x_done (.inl rfl) (.cons (r_tmp rfl) (.cons (r_tmp rfl) .nil)) ?_
      exact ⟨_, ⟨b1, rfl, rfl⟩, (Ent.cons (ent_osl_nil (B := R))).trans (ent_chk (R := R) (C := [_, _]) ⟨none, 0, rfl⟩)⟩
end Go.Proofs.Ytechkfopkpkigaa
