/-
  Layer 38 (hv): a machine that nobody made; the walk of HvZero.
-/
import Derived.Test.YteolepiendmhlaaGreatDoorBase
import Derived.Test.YteolepiendmhlaaGreatDoorZero
import Derived.Test.YteolepiendmhlaaGreatDoorGuestZ
namespace Go.Proofs.YteolepiendmhlaaGreatDoor
open Go.RowKit
set_option linter.unusedSimpArgs false
set_option linter.unusedVariables false
set_option maxRecDepth 20000

abbrev zhO : Obj := cob [.int .i64 0, .slice none 0 0, .slice none 0 0, .slice none 0 0, .slice none 0 0, .slice none 0 0, .int .i64 0, .int .i64 0, .pointer none, .slice none 0 0, .pointer none, .pointer none, .int .i64 0] 80
theorem zhNone_spec (W0 : World) (A : List HP) (p : Option Addr) (h : Zo zhO p A) : Spec Tryz.prog W0 62 [.pointer p] A (fun v B => v = .bool true ∧ B = A) := by
  rcases h with rfl | ⟨b, rfl, h⟩
  · skip
    refine spec_body Tryz.func62 Tryz.ntmps62 rfl rfl ?_
    refine x_seq ?_
    refine x_region ?_
    refine s_val rfl (v_assign rfl) ?_
    refine x_nil ?_
    refine n_then ?_
    refine x_seq ?_
    refine x_region ?_
    refine s_val rfl (v_move rfl) ?_
    refine s_val rfl (v_eql_ptr_nil Tryz.underlying74 rfl rfl) ?_
    refine s_val rfl (v_move rfl) ?_
    refine s_or rfl rfl rfl ?_ ?_
    · intro g1_3
      refine s_no rfl rfl rfl rfl ?_
      refine s_no rfl rfl rfl rfl ?_
      refine s_no rfl rfl rfl rfl ?_
      refine s_no rfl rfl rfl rfl ?_
      refine s_val rfl (v_pick_t rfl rfl) ?_
      refine s_val rfl (v_assign rfl) ?_
      refine x_nil ?_
      refine n_then ?_
      refine x_ret ?_
      refine x_done (.inl rfl) (.cons (r_tmp rfl) .nil) ?_
      exact ⟨_, ⟨rfl, rfl⟩, inferInstance⟩
    · intro g1_3
      exact absurd rfl g1_3
  · skip
    refine spec_body Tryz.func62 Tryz.ntmps62 rfl rfl ?_
    refine x_seq ?_
    refine x_region ?_
    refine s_val rfl (v_assign rfl) ?_
    refine x_nil ?_
    refine n_then ?_
    refine x_seq ?_
    refine x_region ?_
    refine s_val rfl (v_move rfl) ?_
    refine s_val rfl (v_eql_ptr_nil Tryz.underlying74 rfl rfl) ?_
    refine s_val rfl (v_move rfl) ?_
    refine s_or rfl rfl rfl ?_ ?_
    · intro g1_3
      cases g1_3
    · intro g1_3
      refine s_val rfl (v_move rfl) ?_
      refine s_yes rfl rfl ?_
      refine s_val rfl (v_nilCheck rfl) ?_
      refine s_yes rfl rfl ?_
      refine s_val rfl (v_fieldAddr rfl Tryz.underlying80 rfl Tryz.sizeOf77 rfl (by first | exact Nat.zero_add _ | rfl)) ?_
      refine s_yes rfl rfl ?_
      refine s_val rfl (v_load Tryz.isAgg77 rfl (zo_cell h rfl)) ?_
      refine s_yes rfl rfl ?_
      refine s_val rfl (v_eql_ptr_nil Tryz.underlying77 rfl rfl) ?_
      refine s_val rfl (v_pick_f rfl rfl) ?_
      refine s_val rfl (v_assign rfl) ?_
      refine x_nil ?_
      refine n_then ?_
      refine x_ret ?_
      refine x_done (.inl rfl) (.cons (r_tmp rfl) .nil) ?_
      exact ⟨_, ⟨rfl, rfl⟩, inferInstance⟩
theorem zhStep_spec (W0 : World) (A : List HP) (p : Option Addr) (h : Zo zhO p A) : Spec Tryz.prog W0 28 [.pointer p] A (fun v B => v = .tuple #[.agg #[.int .i64 0, .int .i64 0, .int .i64 0, .int .i64 0, .int .i64 0, .int .i64 0], .int .i64 7] ∧ B = A) := by
  refine spec_body Tryz.func28 Tryz.ntmps28 rfl rfl ?_
  refine x_seq ?_
  refine x_region ?_
  refine s_do rfl (d_box rfl rfl) ?_
  rintro _ _ ⟨b1, rfl, rfl⟩
  refine s_do rfl (d_allocA Tryz.zeroValue84) ?_
  rintro _ _ ⟨b2, rfl, rfl⟩
  refine s_val rfl (v_assign rfl) ?_
  refine x_nil ?_
  refine n_then ?_
  refine x_seq ?_
  refine x_seq ?_
  refine x_region ?_
  refine s_val rfl (v_load Tryz.isAgg74 rfl (cell_own rfl)) ?_
  refine s_do rfl (d_call Tryz.call62 rfl (zhNone_spec W0 _ p h.cons.cons)) ?_
  rintro _ B_ ⟨rfl, hB_⟩
  obtain rfl := hB_.symm
  refine x_nil ?_
  refine n_then ?_
  refine x_if rfl ?_ ?_
  · intro c1
    refine x_seq ?_
    refine x_region ?_
    refine s_val rfl (v_build Tryz.underlying84 Tryz.zeroValue84 (sized_cons Tryz.sizeOf82 (sized_cons Tryz.sizeOf3 (sized_cons Tryz.sizeOf3 sized_nil))) fil_nil) ?_
    refine s_do0 (d_storeAll Tryz.sizeOf84 rfl rfl rfl rfl rfl) ?_
    rintro _ _ rfl
    refine s_val rfl (v_assign rfl) ?_
    refine x_nil ?_
    refine n_then ?_
    refine x_ret ?_
    refine r_then ?_
    refine x_done (.inl rfl) (.cons (r_all Tryz.isAgg84 Tryz.sizeOf84 rfl rfl) (.cons (r_tmp rfl) .nil)) ?_
    exact ⟨_, ⟨rfl, rfl⟩, inferInstance⟩
  · intro c1
    exact absurd rfl c1
theorem zhRun_spec (W0 : World) (A : List HP) (p : Option Addr) (h : Zo zhO p A) (i : Int) : Spec Tryz.prog W0 29 [.pointer p, .int .i64 i] A (fun v B => v = .slice none 0 0 ∧ B = A) := by
  refine spec_body Tryz.func29 Tryz.ntmps29 rfl rfl ?_
  refine x_seq ?_
  refine x_region ?_
  refine s_val rfl (v_assign rfl) ?_
  refine x_nil ?_
  refine n_then ?_
  refine x_seq ?_
  refine x_seq ?_
  refine x_region ?_
  refine s_val rfl (v_move rfl) ?_
  refine s_do rfl (d_call Tryz.call62 rfl (zhNone_spec W0 _ p h)) ?_
  rintro _ B_ ⟨rfl, hB_⟩
  obtain rfl := hB_.symm
  refine x_nil ?_
  refine n_then ?_
  refine x_if rfl ?_ ?_
  · intro c1
    refine x_seq ?_
    refine x_region ?_
    refine s_val rfl (v_assign rfl) ?_
    refine x_nil ?_
    refine n_then ?_
    refine x_ret ?_
    refine r_then ?_
    refine x_done (.inl rfl) (.cons (r_tmp rfl) .nil) ?_
    exact ⟨_, ⟨rfl, rfl⟩, inferInstance⟩
  · intro c1
    exact absurd rfl c1
theorem zhSteps_spec (W0 : World) (A : List HP) (p : Option Addr) (h : Zo zhO p A) : Spec Tryz.prog W0 30 [.pointer p] A (fun v B => v = .int .i64 0 ∧ B = A) := by
  refine spec_body Tryz.func30 Tryz.ntmps30 rfl rfl ?_
  refine x_seq ?_
  refine x_region ?_
  refine s_val rfl (v_assign rfl) ?_
  refine x_nil ?_
  refine n_then ?_
  refine x_seq ?_
  refine x_seq ?_
  refine x_region ?_
  refine s_val rfl (v_move rfl) ?_
  refine s_do rfl (d_call Tryz.call62 rfl (zhNone_spec W0 _ p h)) ?_
  rintro _ B_ ⟨rfl, hB_⟩
  obtain rfl := hB_.symm
  refine x_nil ?_
  refine n_then ?_
  refine x_if rfl ?_ ?_
  · intro c1
    refine x_seq ?_
    refine x_region ?_
    refine s_val rfl (v_assign rfl) ?_
    refine x_nil ?_
    refine n_then ?_
    refine x_ret ?_
    refine r_then ?_
    refine x_done (.inl rfl) (.cons (r_tmp rfl) .nil) ?_
    exact ⟨_, ⟨rfl, rfl⟩, inferInstance⟩
  · intro c1
    exact absurd rfl c1
theorem zhGuests_spec (W0 : World) (A : List HP) (p : Option Addr) (h : Zo zhO p A) : Spec Tryz.prog W0 31 [.pointer p] A (fun v B => v = .int .i64 0 ∧ B = A) := by
  refine spec_body Tryz.func31 Tryz.ntmps31 rfl rfl ?_
  refine x_seq ?_
  refine x_region ?_
  refine s_val rfl (v_assign rfl) ?_
  refine x_nil ?_
  refine n_then ?_
  refine x_seq ?_
  refine x_seq ?_
  refine x_region ?_
  refine s_val rfl (v_move rfl) ?_
  refine s_do rfl (d_call Tryz.call62 rfl (zhNone_spec W0 _ p h)) ?_
  rintro _ B_ ⟨rfl, hB_⟩
  obtain rfl := hB_.symm
  refine x_nil ?_
  refine n_then ?_
  refine x_if rfl ?_ ?_
  · intro c1
    refine x_seq ?_
    refine x_region ?_
    refine s_val rfl (v_assign rfl) ?_
    refine x_nil ?_
    refine n_then ?_
    refine x_ret ?_
    refine r_then ?_
    refine x_done (.inl rfl) (.cons (r_tmp rfl) .nil) ?_
    exact ⟨_, ⟨rfl, rfl⟩, inferInstance⟩
  · intro c1
    exact absurd rfl c1
theorem zhGuest_spec (W0 : World) (A : List HP) (p : Option Addr) (h : Zo zhO p A) (i : Int) : Spec Tryz.prog W0 32 [.pointer p, .int .i64 i] A (fun v B => v = .pointer none ∧ B = A) := by
  refine spec_body Tryz.func32 Tryz.ntmps32 rfl rfl ?_
  refine x_seq ?_
  refine x_region ?_
  refine s_val rfl (v_assign rfl) ?_
  refine x_nil ?_
  refine n_then ?_
  refine x_seq ?_
  refine x_seq ?_
  refine x_region ?_
  refine s_val rfl (v_move rfl) ?_
  refine s_do rfl (d_call Tryz.call62 rfl (zhNone_spec W0 _ p h)) ?_
  rintro _ B_ ⟨rfl, hB_⟩
  obtain rfl := hB_.symm
  refine s_val rfl (v_move rfl) ?_
  refine s_or rfl rfl rfl ?_ ?_
  · intro g1_3
    refine s_no rfl rfl rfl rfl ?_
    refine s_val rfl (v_pick_t rfl rfl) ?_
    refine s_val rfl (v_move rfl) ?_
    refine s_no rfl rfl rfl rfl ?_
    refine s_no rfl rfl rfl rfl ?_
    refine s_no rfl rfl rfl rfl ?_
    refine s_no rfl rfl rfl rfl ?_
    refine s_no rfl rfl rfl rfl ?_
    refine s_no rfl rfl rfl rfl ?_
    refine s_no rfl rfl rfl rfl ?_
    refine s_val rfl (v_pick_t rfl rfl) ?_
    refine x_nil ?_
    refine n_then ?_
    refine x_ift rfl ?_
    refine x_seq ?_
    refine x_region ?_
    refine s_val rfl (v_assign rfl) ?_
    refine x_nil ?_
    refine n_then ?_
    refine x_ret ?_
    refine r_then ?_
    refine x_done (.inl rfl) (.cons (r_tmp rfl) .nil) ?_
    exact ⟨_, ⟨rfl, rfl⟩, inferInstance⟩
  · intro g1_3
    exact absurd rfl g1_3
theorem zhHost_spec (W0 : World) (A : List HP) (p : Option Addr) (h : Zo zhO p A) : Spec Tryz.prog W0 33 [.pointer p] A (fun v B => v = .pointer none ∧ B = A) := by
  refine spec_body Tryz.func33 Tryz.ntmps33 rfl rfl ?_
  refine x_seq ?_
  refine x_region ?_
  refine s_val rfl (v_assign rfl) ?_
  refine x_nil ?_
  refine n_then ?_
  refine x_seq ?_
  refine x_seq ?_
  refine x_region ?_
  refine s_val rfl (v_move rfl) ?_
  refine s_do rfl (d_call Tryz.call62 rfl (zhNone_spec W0 _ p h)) ?_
  rintro _ B_ ⟨rfl, hB_⟩
  obtain rfl := hB_.symm
  refine x_nil ?_
  refine n_then ?_
  refine x_if rfl ?_ ?_
  · intro c1
    refine x_seq ?_
    refine x_region ?_
    refine s_val rfl (v_assign rfl) ?_
    refine x_nil ?_
    refine n_then ?_
    refine x_ret ?_
    refine r_then ?_
    refine x_done (.inl rfl) (.cons (r_tmp rfl) .nil) ?_
    exact ⟨_, ⟨rfl, rfl⟩, inferInstance⟩
  · intro c1
    exact absurd rfl c1
theorem zhn_spec (W0 : World) (A : List HP) : Spec Tryz.prog W0 127 [.pointer none] A (fun v B => v = .bool true ∧ B = A) := by
  refine spec_body Tryz.func127 Tryz.ntmps127 rfl rfl ?_
  refine x_seq ?_
  refine x_region ?_
  refine s_val rfl (v_assign rfl) ?_
  refine x_nil ?_
  refine n_then ?_
  refine x_seq ?_
  refine x_region ?_
  refine s_val rfl (v_move rfl) ?_
  refine s_val rfl (v_eql_ptr_nil Tryz.underlying75 rfl rfl) ?_
  refine s_val rfl (v_move rfl) ?_
  refine s_or rfl rfl rfl ?_ ?_
  · intro g1_3
    refine s_no rfl rfl rfl rfl ?_
    refine s_no rfl rfl rfl rfl ?_
    refine s_no rfl rfl rfl rfl ?_
    refine s_no rfl rfl rfl rfl ?_
    refine s_val rfl (v_pick_t rfl rfl) ?_
    refine s_val rfl (v_assign rfl) ?_
    refine x_nil ?_
    refine n_then ?_
    refine x_ret ?_
    refine x_done (.inl rfl) (.cons (r_tmp rfl) .nil) ?_
    exact ⟨_, ⟨rfl, rfl⟩, inferInstance⟩
  · intro g1_3
    exact absurd rfl g1_3
theorem zgn_spec (W0 : World) (A : List HP) : Spec Tryz.prog W0 133 [.pointer none] A (fun v B => v = .bool true ∧ B = A) := by
  refine spec_body Tryz.func133 Tryz.ntmps133 rfl rfl ?_
  refine x_seq ?_
  refine x_region ?_
  refine s_val rfl (v_assign rfl) ?_
  refine x_nil ?_
  refine n_then ?_
  refine x_seq ?_
  refine x_region ?_
  refine s_val rfl (v_move rfl) ?_
  refine s_val rfl (v_eql_ptr_nil Tryz.underlying130 rfl rfl) ?_
  refine s_val rfl (v_move rfl) ?_
  refine s_or rfl rfl rfl ?_ ?_
  · intro g1_3
    refine s_no rfl rfl rfl rfl ?_
    refine s_no rfl rfl rfl rfl ?_
    refine s_no rfl rfl rfl rfl ?_
    refine s_no rfl rfl rfl rfl ?_
    refine s_val rfl (v_pick_t rfl rfl) ?_
    refine s_val rfl (v_assign rfl) ?_
    refine x_nil ?_
    refine n_then ?_
    refine x_ret ?_
    refine x_done (.inl rfl) (.cons (r_tmp rfl) .nil) ?_
    exact ⟨_, ⟨rfl, rfl⟩, inferInstance⟩
  · intro g1_3
    exact absurd rfl g1_3
theorem ztn_spec (W0 : World) (A : List HP) : Spec Tryz.prog W0 160 [.pointer none] A (fun v B => v = .bool true ∧ B = A) := by
  refine spec_body Tryz.func160 Tryz.ntmps160 rfl rfl ?_
  refine x_seq ?_
  refine x_region ?_
  refine s_val rfl (v_assign rfl) ?_
  refine x_nil ?_
  refine n_then ?_
  refine x_seq ?_
  refine x_region ?_
  refine s_val rfl (v_move rfl) ?_
  refine s_val rfl (v_eql_ptr_nil Tryz.underlying45 rfl rfl) ?_
  refine s_val rfl (v_move rfl) ?_
  refine s_or rfl rfl rfl ?_ ?_
  · intro g1_3
    refine s_no rfl rfl rfl rfl ?_
    refine s_no rfl rfl rfl rfl ?_
    refine s_no rfl rfl rfl rfl ?_
    refine s_no rfl rfl rfl rfl ?_
    refine s_val rfl (v_pick_t rfl rfl) ?_
    refine s_val rfl (v_assign rfl) ?_
    refine x_nil ?_
    refine n_then ?_
    refine x_ret ?_
    refine x_done (.inl rfl) (.cons (r_tmp rfl) .nil) ?_
    exact ⟨_, ⟨rfl, rfl⟩, inferInstance⟩
  · intro g1_3
    exact absurd rfl g1_3
theorem zhPorts_spec (W0 : World) (A : List HP) : Spec Tryz.prog W0 72 [.pointer none] A (fun v B => v = .pointer none ∧ B = A) := by
  refine spec_body Tryz.func72 Tryz.ntmps72 rfl rfl ?_
  refine x_seq ?_
  refine x_region ?_
  refine s_val rfl (v_assign rfl) ?_
  refine x_nil ?_
  refine n_then ?_
  refine x_seq ?_
  refine x_seq ?_
  refine x_region ?_
  refine s_val rfl (v_move rfl) ?_
  refine s_do rfl (d_call Tryz.call127 rfl (zhn_spec W0 _)) ?_
  rintro _ B_ ⟨rfl, hB_⟩
  obtain rfl := hB_.symm
  refine x_nil ?_
  refine n_then ?_
  refine x_if rfl ?_ ?_
  · intro c1
    refine x_seq ?_
    refine x_region ?_
    refine s_val rfl (v_assign rfl) ?_
    refine x_nil ?_
    refine n_then ?_
    refine x_ret ?_
    refine r_then ?_
    refine x_done (.inl rfl) (.cons (r_tmp rfl) .nil) ?_
    exact ⟨_, ⟨rfl, rfl⟩, inferInstance⟩
  · intro c1
    exact absurd rfl c1
theorem zhGate_spec (W0 : World) (A : List HP) : Spec Tryz.prog W0 74 [.pointer none] A (fun v B => v = .pointer none ∧ B = A) := by
  refine spec_body Tryz.func74 Tryz.ntmps74 rfl rfl ?_
  refine x_seq ?_
  refine x_region ?_
  refine s_val rfl (v_assign rfl) ?_
  refine x_nil ?_
  refine n_then ?_
  refine x_seq ?_
  refine x_seq ?_
  refine x_region ?_
  refine s_val rfl (v_move rfl) ?_
  refine s_do rfl (d_call Tryz.call127 rfl (zhn_spec W0 _)) ?_
  rintro _ B_ ⟨rfl, hB_⟩
  obtain rfl := hB_.symm
  refine x_nil ?_
  refine n_then ?_
  refine x_if rfl ?_ ?_
  · intro c1
    refine x_seq ?_
    refine x_region ?_
    refine s_val rfl (v_assign rfl) ?_
    refine x_nil ?_
    refine n_then ?_
    refine x_ret ?_
    refine r_then ?_
    refine x_done (.inl rfl) (.cons (r_tmp rfl) .nil) ?_
    exact ⟨_, ⟨rfl, rfl⟩, inferInstance⟩
  · intro c1
    exact absurd rfl c1
theorem zpAt_spec (W0 : World) (A : List HP) (i : Int) : Spec Tryz.prog W0 131 [.pointer none, .int .i64 i] A (fun v B => v = .pointer none ∧ B = A) := by
  refine spec_body Tryz.func131 Tryz.ntmps131 rfl rfl ?_
  refine x_seq ?_
  refine x_region ?_
  refine s_val rfl (v_assign rfl) ?_
  refine x_nil ?_
  refine n_then ?_
  refine x_seq ?_
  refine x_seq ?_
  refine x_region ?_
  refine s_val rfl (v_move rfl) ?_
  refine s_val rfl (v_eql_ptr_nil Tryz.underlying128 rfl rfl) ?_
  refine s_val rfl (v_move rfl) ?_
  refine s_or rfl rfl rfl ?_ ?_
  · intro g1_3
    refine s_no rfl rfl rfl rfl ?_
    refine s_val rfl (v_pick_t rfl rfl) ?_
    refine s_val rfl (v_move rfl) ?_
    refine s_no rfl rfl rfl rfl ?_
    refine s_no rfl rfl rfl rfl ?_
    refine s_no rfl rfl rfl rfl ?_
    refine s_no rfl rfl rfl rfl ?_
    refine s_no rfl rfl rfl rfl ?_
    refine s_no rfl rfl rfl rfl ?_
    refine s_no rfl rfl rfl rfl ?_
    refine s_val rfl (v_pick_t rfl rfl) ?_
    refine x_nil ?_
    refine n_then ?_
    refine x_ift rfl ?_
    refine x_seq ?_
    refine x_region ?_
    refine s_val rfl (v_assign rfl) ?_
    refine x_nil ?_
    refine n_then ?_
    refine x_ret ?_
    refine r_then ?_
    refine x_done (.inl rfl) (.cons (r_tmp rfl) .nil) ?_
    exact ⟨_, ⟨rfl, rfl⟩, inferInstance⟩
  · intro g1_3
    exact absurd rfl g1_3
theorem zpOut_spec (W0 : World) (A : List HP) (i : Int) : Spec Tryz.prog W0 73 [.pointer none, .int .i64 i] A (fun v B => v = .slice none 0 0 ∧ B = A) := by
  refine spec_body Tryz.func73 Tryz.ntmps73 rfl rfl ?_
  refine x_seq ?_
  refine x_region ?_
  refine s_val rfl (v_assign rfl) ?_
  refine x_nil ?_
  refine n_then ?_
  refine x_seq ?_
  refine x_region ?_
  refine s_val rfl (v_move rfl) ?_
  refine s_val rfl (v_move rfl) ?_
  refine s_do rfl (d_call Tryz.call131 rfl (zpAt_spec W0 _ i)) ?_
  rintro _ B_ ⟨rfl, hB_⟩
  obtain rfl := hB_.symm
  refine s_val rfl (v_assign rfl) ?_
  refine x_nil ?_
  refine n_then ?_
  refine x_seq ?_
  refine x_seq ?_
  refine x_region ?_
  refine s_val rfl (v_move rfl) ?_
  refine s_val rfl (v_eql_ptr_nil Tryz.underlying220 rfl rfl) ?_
  refine s_val rfl (v_move rfl) ?_
  refine s_or rfl rfl rfl ?_ ?_
  · intro g2_3
    refine s_no rfl rfl rfl rfl ?_
    refine s_no rfl rfl rfl rfl ?_
    refine s_no rfl rfl rfl rfl ?_
    refine s_no rfl rfl rfl rfl ?_
    refine s_no rfl rfl rfl rfl ?_
    refine s_val rfl (v_pick_t rfl rfl) ?_
    refine x_nil ?_
    refine n_then ?_
    refine x_ift rfl ?_
    refine x_seq ?_
    refine x_region ?_
    refine s_val rfl (v_assign rfl) ?_
    refine x_nil ?_
    refine n_then ?_
    refine x_ret ?_
    refine r_then ?_
    refine x_done (.inl rfl) (.cons (r_tmp rfl) .nil) ?_
    exact ⟨_, ⟨rfl, rfl⟩, inferInstance⟩
  · intro g2_3
    exact absurd rfl g2_3
theorem zgLog_spec (W0 : World) (A : List HP) : Spec Tryz.prog W0 75 [.pointer none] A (fun v B => v = .slice none 0 0 ∧ B = A) := by
  refine spec_body Tryz.func75 Tryz.ntmps75 rfl rfl ?_
  refine x_seq ?_
  refine x_region ?_
  refine s_val rfl (v_assign rfl) ?_
  refine x_nil ?_
  refine n_then ?_
  refine x_seq ?_
  refine x_seq ?_
  refine x_region ?_
  refine s_val rfl (v_move rfl) ?_
  refine s_do rfl (d_call Tryz.call133 rfl (zgn_spec W0 _)) ?_
  rintro _ B_ ⟨rfl, hB_⟩
  obtain rfl := hB_.symm
  refine x_nil ?_
  refine n_then ?_
  refine x_if rfl ?_ ?_
  · intro c1
    refine x_seq ?_
    refine x_region ?_
    refine s_val rfl (v_assign rfl) ?_
    refine x_nil ?_
    refine n_then ?_
    refine x_ret ?_
    refine r_then ?_
    refine x_done (.inl rfl) (.cons (r_tmp rfl) .nil) ?_
    exact ⟨_, ⟨rfl, rfl⟩, inferInstance⟩
  · intro c1
    exact absurd rfl c1
theorem ztFrom_spec (W0 : World) (A : List HP) (i : Int) : Spec Tryz.prog W0 130 [.pointer none, .int .i64 i] A (fun v B => v = .slice none 0 0 ∧ B = A) := by
  refine spec_body Tryz.func130 Tryz.ntmps130 rfl rfl ?_
  refine x_seq ?_
  refine x_region ?_
  refine s_val rfl (v_assign rfl) ?_
  refine x_nil ?_
  refine n_then ?_
  refine x_seq ?_
  refine x_seq ?_
  refine x_region ?_
  refine s_val rfl (v_move rfl) ?_
  refine s_do rfl (d_call Tryz.call160 rfl (ztn_spec W0 _)) ?_
  rintro _ B_ ⟨rfl, hB_⟩
  obtain rfl := hB_.symm
  refine x_nil ?_
  refine n_then ?_
  refine x_if rfl ?_ ?_
  · intro c1
    refine x_seq ?_
    refine x_region ?_
    refine s_val rfl (v_assign rfl) ?_
    refine x_nil ?_
    refine n_then ?_
    refine x_ret ?_
    refine r_then ?_
    refine x_done (.inl rfl) (.cons (r_tmp rfl) .nil) ?_
    exact ⟨_, ⟨rfl, rfl⟩, inferInstance⟩
  · intro c1
    exact absurd rfl c1
theorem ztAll_spec (W0 : World) (A : List HP) : Spec Tryz.prog W0 71 [.pointer none] A (fun v B => v = .slice none 0 0 ∧ B = A) := by
  refine spec_body Tryz.func71 Tryz.ntmps71 rfl rfl ?_
  refine x_seq ?_
  refine x_region ?_
  refine s_val rfl (v_assign rfl) ?_
  refine x_nil ?_
  refine n_then ?_
  refine x_seq ?_
  refine x_region ?_
  refine s_val rfl (v_move rfl) ?_
  refine s_do rfl (d_call Tryz.call130 rfl (ztFrom_spec W0 _ 0)) ?_
  rintro _ B_ ⟨rfl, hB_⟩
  obtain rfl := hB_.symm
  refine s_val rfl (v_assign rfl) ?_
  refine x_nil ?_
  refine n_then ?_
  refine x_ret ?_
  refine x_done (.inl rfl) (.cons (r_tmp rfl) .nil) ?_
  exact ⟨_, ⟨rfl, rfl⟩, inferInstance⟩
theorem zhTrace_spec (W0 : World) (A : List HP) (p : Option Addr) (h : Zo zhO p A) (i : Int) : Spec Tryz.prog W0 34 [.pointer p, .int .i64 i] A (fun v B => v = .slice none 0 0 ∧ B = A) := by
  refine spec_body Tryz.func34 Tryz.ntmps34 rfl rfl ?_
  refine x_seq ?_
  refine x_region ?_
  refine s_val rfl (v_assign rfl) ?_
  refine x_nil ?_
  refine n_then ?_
  refine x_seq ?_
  refine x_region ?_
  refine s_val rfl (v_move rfl) ?_
  refine s_val rfl (v_move rfl) ?_
  refine s_do rfl (d_call Tryz.call32 rfl (zhGuest_spec W0 _ p h i)) ?_
  rintro _ B_ ⟨rfl, hB_⟩
  obtain rfl := hB_.symm
  refine s_do rfl (d_call Tryz.call23 rfl (zgTrace_spec W0 _ none (.inl rfl))) ?_
  rintro _ B_ ⟨rfl, hB_⟩
  obtain rfl := hB_.symm
  refine s_do rfl (d_call Tryz.call71 rfl (ztAll_spec W0 _)) ?_
  rintro _ B_ ⟨rfl, hB_⟩
  obtain rfl := hB_.symm
  refine s_val rfl (v_assign rfl) ?_
  refine x_nil ?_
  refine n_then ?_
  refine x_ret ?_
  refine x_done (.inl rfl) (.cons (r_tmp rfl) .nil) ?_
  exact ⟨_, ⟨rfl, rfl⟩, inferInstance⟩
theorem zhOut_spec (W0 : World) (A : List HP) (p : Option Addr) (h : Zo zhO p A) (i : Int) : Spec Tryz.prog W0 35 [.pointer p, .int .i64 i] A (fun v B => v = .slice none 0 0 ∧ B = A) := by
  refine spec_body Tryz.func35 Tryz.ntmps35 rfl rfl ?_
  refine x_seq ?_
  refine x_region ?_
  refine s_val rfl (v_assign rfl) ?_
  refine x_nil ?_
  refine n_then ?_
  refine x_seq ?_
  refine x_region ?_
  refine s_val rfl (v_move rfl) ?_
  refine s_do rfl (d_call Tryz.call33 rfl (zhHost_spec W0 _ p h)) ?_
  rintro _ B_ ⟨rfl, hB_⟩
  obtain rfl := hB_.symm
  refine s_do rfl (d_call Tryz.call72 rfl (zhPorts_spec W0 _)) ?_
  rintro _ B_ ⟨rfl, hB_⟩
  obtain rfl := hB_.symm
  refine s_val rfl (v_move rfl) ?_
  refine s_do rfl (d_call Tryz.call73 rfl (zpOut_spec W0 _ i)) ?_
  rintro _ B_ ⟨rfl, hB_⟩
  obtain rfl := hB_.symm
  refine s_val rfl (v_assign rfl) ?_
  refine x_nil ?_
  refine n_then ?_
  refine x_ret ?_
  refine x_done (.inl rfl) (.cons (r_tmp rfl) .nil) ?_
  exact ⟨_, ⟨rfl, rfl⟩, inferInstance⟩
theorem zhLog_spec (W0 : World) (A : List HP) (p : Option Addr) (h : Zo zhO p A) : Spec Tryz.prog W0 36 [.pointer p] A (fun v B => v = .slice none 0 0 ∧ B = A) := by
  refine spec_body Tryz.func36 Tryz.ntmps36 rfl rfl ?_
  refine x_seq ?_
  refine x_region ?_
  refine s_val rfl (v_assign rfl) ?_
  refine x_nil ?_
  refine n_then ?_
  refine x_seq ?_
  refine x_region ?_
  refine s_val rfl (v_move rfl) ?_
  refine s_do rfl (d_call Tryz.call33 rfl (zhHost_spec W0 _ p h)) ?_
  rintro _ B_ ⟨rfl, hB_⟩
  obtain rfl := hB_.symm
  refine s_do rfl (d_call Tryz.call74 rfl (zhGate_spec W0 _)) ?_
  rintro _ B_ ⟨rfl, hB_⟩
  obtain rfl := hB_.symm
  refine s_do rfl (d_call Tryz.call75 rfl (zgLog_spec W0 _)) ?_
  rintro _ B_ ⟨rfl, hB_⟩
  obtain rfl := hB_.symm
  refine s_val rfl (v_assign rfl) ?_
  refine x_nil ?_
  refine n_then ?_
  refine x_ret ?_
  refine x_done (.inl rfl) (.cons (r_tmp rfl) .nil) ?_
  exact ⟨_, ⟨rfl, rfl⟩, inferInstance⟩
theorem HvZero_walk (W0 : World) (n : Int) : Spec Tryz.prog W0 4 [.int .i64 n] [] (fun v B => v = .bool true ∧ B = []) := by
  refine spec_body Tryz.func4 Tryz.ntmps4 rfl rfl ?_
  refine x_seq ?_
  refine x_region ?_
  refine s_val rfl (v_assign rfl) ?_
  refine x_nil ?_
  refine n_then ?_
  refine x_seq ?_
  refine x_region ?_
  refine s_val rfl (v_assign rfl) ?_
  refine x_nil ?_
  refine n_then ?_
  refine x_seq ?_
  refine x_region ?_
  refine s_do rfl (d_allocA Tryz.zeroValue80) ?_
  rintro _ _ ⟨bu, rfl, rfl⟩
  refine x_nil ?_
  refine n_then ?_
  refine x_seq ?_
  refine x_region ?_
  refine s_val rfl (v_move rfl) ?_
  refine s_do rfl (d_call Tryz.call28 rfl (zhStep_spec W0 _ none (.inl rfl))) ?_
  rintro _ B_ ⟨rfl, hB_⟩
  obtain rfl := hB_.symm
  refine s_val rfl (v_move rfl) ?_
  refine s_val rfl (v_extract rfl rfl) ?_
  refine s_val rfl (v_extract rfl rfl) ?_
  refine s_do rfl (d_allocA Tryz.zeroValue84) ?_
  rintro _ _ ⟨b2, rfl, rfl⟩
  refine s_do0 (d_storeAll Tryz.sizeOf84 rfl rfl rfl rfl rfl) ?_
  rintro _ _ rfl
  refine s_val rfl (v_assign rfl) ?_
  refine x_nil ?_
  refine n_then ?_
  refine x_seq ?_
  refine x_region ?_
  refine s_do rfl (d_call Tryz.call28 rfl (zhStep_spec W0 _ (some ⟨bu, 0, none⟩) (.inr ⟨bu, rfl, inferInstance⟩))) ?_
  rintro _ B_ ⟨rfl, hB_⟩
  obtain rfl := hB_.symm
  refine s_val rfl (v_move rfl) ?_
  refine s_val rfl (v_extract rfl rfl) ?_
  refine s_val rfl (v_extract rfl rfl) ?_
  refine s_do rfl (d_allocA Tryz.zeroValue84) ?_
  rintro _ _ ⟨b3, rfl, rfl⟩
  refine s_do0 (d_storeAll Tryz.sizeOf84 rfl rfl rfl rfl rfl) ?_
  rintro _ _ rfl
  refine s_val rfl (v_assign rfl) ?_
  refine x_nil ?_
  refine n_then ?_
  refine x_seq ?_
  refine x_region ?_
  refine s_val rfl (v_loadAll Tryz.isAgg84 Tryz.sizeOf84 rfl rfl) ?_
  refine s_val rfl (v_build Tryz.underlying84 Tryz.zeroValue84 (sized_cons Tryz.sizeOf82 (sized_cons Tryz.sizeOf3 (sized_cons Tryz.sizeOf3 sized_nil))) fil_nil) ?_
  refine s_val rfl (v_eql_agg Tryz.eqGuardType84 rfl rfl (q_struct Tryz.underlying84 Tryz.stoodInHeld84 (qf_gen rfl (part_agg Tryz.isAgg82 Tryz.sizeOf82 TakeL.eq) (part_agg Tryz.isAgg82 Tryz.sizeOf82 TakeL.eq) (q_struct Tryz.underlying82 Tryz.stoodInHeld82 (qf_scal rfl Tryz.isAgg3 rfl rfl (q_int Tryz.underlying3) (qf_scal rfl Tryz.isAgg3 rfl rfl (q_int Tryz.underlying3) (qf_scal rfl Tryz.isAgg3 rfl rfl (q_int Tryz.underlying3) (qf_scal rfl Tryz.isAgg3 rfl rfl (q_int Tryz.underlying3) qf_nil))))) (qf_scal rfl Tryz.isAgg3 rfl rfl (q_int Tryz.underlying3) (qf_scal rfl Tryz.isAgg3 rfl rfl (q_int Tryz.underlying3) qf_nil))))) ?_
  refine s_val rfl (v_move rfl) ?_
  refine s_and rfl rfl rfl ?_ ?_
  · intro g5_4
    refine s_val rfl (v_loadAll Tryz.isAgg84 Tryz.sizeOf84 rfl rfl) ?_
    refine s_yes rfl rfl ?_
    refine s_val rfl (v_loadAll Tryz.isAgg84 Tryz.sizeOf84 rfl rfl) ?_
    refine s_yes rfl rfl ?_
    refine s_val rfl (v_eql_agg Tryz.eqGuardType84 rfl rfl (q_struct Tryz.underlying84 Tryz.stoodInHeld84 (qf_gen rfl (part_agg Tryz.isAgg82 Tryz.sizeOf82 TakeL.eq) (part_agg Tryz.isAgg82 Tryz.sizeOf82 TakeL.eq) (q_struct Tryz.underlying82 Tryz.stoodInHeld82 (qf_scal rfl Tryz.isAgg3 rfl rfl (q_int Tryz.underlying3) (qf_scal rfl Tryz.isAgg3 rfl rfl (q_int Tryz.underlying3) (qf_scal rfl Tryz.isAgg3 rfl rfl (q_int Tryz.underlying3) (qf_scal rfl Tryz.isAgg3 rfl rfl (q_int Tryz.underlying3) qf_nil))))) (qf_scal rfl Tryz.isAgg3 rfl rfl (q_int Tryz.underlying3) (qf_scal rfl Tryz.isAgg3 rfl rfl (q_int Tryz.underlying3) qf_nil))))) ?_
    refine s_val rfl (v_pick_t rfl rfl) ?_
    refine s_val rfl (v_move rfl) ?_
    refine s_and rfl rfl rfl ?_ ?_
    · intro g5_9
      refine s_val rfl (v_move rfl) ?_
      refine s_yes rfl rfl ?_
      refine s_val rfl (v_eql rfl rfl) ?_
      refine s_val rfl (v_pick_t rfl rfl) ?_
      refine s_val rfl (v_move rfl) ?_
      refine s_and rfl rfl rfl ?_ ?_
      · intro g5_13
        refine s_val rfl (v_move rfl) ?_
        refine s_yes rfl rfl ?_
        refine s_val rfl (v_move rfl) ?_
        refine s_yes rfl rfl ?_
        refine s_val rfl (v_eql rfl rfl) ?_
        refine s_val rfl (v_pick_t rfl rfl) ?_
        refine s_val rfl (v_move rfl) ?_
        refine s_and rfl rfl rfl ?_ ?_
        · intro g5_18
          refine s_val rfl (v_move rfl) ?_
          refine s_yes rfl rfl ?_
          refine s_val rfl (v_move rfl) ?_
          refine s_yes rfl rfl ?_
          refine s_do rfl (d_call Tryz.call29 rfl (zhRun_spec W0 _ none (.inl rfl) n)) ?_
          rintro _ B_ ⟨rfl, hB_⟩
          obtain rfl := hB_.symm
          refine s_yes rfl rfl ?_
          refine s_val rfl (v_len_slice Tryz.underlying87 rfl) ?_
          refine s_yes rfl rfl ?_
          refine s_val rfl (v_move rfl) ?_
          refine s_yes rfl rfl ?_
          refine s_do rfl (d_call Tryz.call29 rfl (zhRun_spec W0 _ (some ⟨bu, 0, none⟩) (.inr ⟨bu, rfl, inferInstance⟩) n)) ?_
          rintro _ B_ ⟨rfl, hB_⟩
          obtain rfl := hB_.symm
          refine s_yes rfl rfl ?_
          refine s_val rfl (v_len_slice Tryz.underlying87 rfl) ?_
          refine s_yes rfl rfl ?_
          refine s_val rfl (v_add rfl rfl (by first | exact w64 (by omega) | rfl)) ?_
          refine s_yes rfl rfl ?_
          refine s_val rfl (v_eql rfl rfl) ?_
          refine s_val rfl (v_pick_t rfl rfl) ?_
          refine s_val rfl (v_move rfl) ?_
          refine s_and rfl rfl rfl ?_ ?_
          · intro g5_29
            refine s_val rfl (v_move rfl) ?_
            refine s_yes rfl rfl ?_
            refine s_do rfl (d_call Tryz.call30 rfl (zhSteps_spec W0 _ none (.inl rfl))) ?_
            rintro _ B_ ⟨rfl, hB_⟩
            obtain rfl := hB_.symm
            refine s_yes rfl rfl ?_
            refine s_do rfl (d_call Tryz.call31 rfl (zhGuests_spec W0 _ (some ⟨bu, 0, none⟩) (.inr ⟨bu, rfl, inferInstance⟩))) ?_
            rintro _ B_ ⟨rfl, hB_⟩
            obtain rfl := hB_.symm
            refine s_yes rfl rfl ?_
            refine s_val rfl (v_add rfl rfl (by first | exact w64 (by omega) | rfl)) ?_
            refine s_yes rfl rfl ?_
            refine s_val rfl (v_eql rfl rfl) ?_
            refine s_val rfl (v_pick_t rfl rfl) ?_
            refine s_val rfl (v_move rfl) ?_
            refine s_and rfl rfl rfl ?_ ?_
            · intro g5_36
              refine s_val rfl (v_move rfl) ?_
              refine s_yes rfl rfl ?_
              refine s_do rfl (d_call Tryz.call32 rfl (zhGuest_spec W0 _ none (.inl rfl) 0)) ?_
              rintro _ B_ ⟨rfl, hB_⟩
              obtain rfl := hB_.symm
              refine s_yes rfl rfl ?_
              refine s_val rfl (v_eql_ptr_nil Tryz.underlying23 rfl rfl) ?_
              refine s_val rfl (v_pick_t rfl rfl) ?_
              refine s_val rfl (v_move rfl) ?_
              refine s_and rfl rfl rfl ?_ ?_
              · intro g5_41
                refine s_do rfl (d_call Tryz.call33 rfl (zhHost_spec W0 _ (some ⟨bu, 0, none⟩) (.inr ⟨bu, rfl, inferInstance⟩))) ?_
                rintro _ B_ ⟨rfl, hB_⟩
                obtain rfl := hB_.symm
                refine s_yes rfl rfl ?_
                refine s_val rfl (v_eql_ptr_nil Tryz.underlying75 rfl rfl) ?_
                refine s_val rfl (v_pick_t rfl rfl) ?_
                refine s_val rfl (v_move rfl) ?_
                refine s_and rfl rfl rfl ?_ ?_
                · intro g5_45
                  refine s_val rfl (v_move rfl) ?_
                  refine s_yes rfl rfl ?_
                  refine s_val rfl (v_move rfl) ?_
                  refine s_yes rfl rfl ?_
                  refine s_do rfl (d_call Tryz.call34 rfl (zhTrace_spec W0 _ none (.inl rfl) n)) ?_
                  rintro _ B_ ⟨rfl, hB_⟩
                  obtain rfl := hB_.symm
                  refine s_yes rfl rfl ?_
                  refine s_val rfl (v_len_slice Tryz.underlying91 rfl) ?_
                  refine s_yes rfl rfl ?_
                  refine s_val rfl (v_move rfl) ?_
                  refine s_yes rfl rfl ?_
                  refine s_do rfl (d_call Tryz.call34 rfl (zhTrace_spec W0 _ (some ⟨bu, 0, none⟩) (.inr ⟨bu, rfl, inferInstance⟩) n)) ?_
                  rintro _ B_ ⟨rfl, hB_⟩
                  obtain rfl := hB_.symm
                  refine s_yes rfl rfl ?_
                  refine s_val rfl (v_len_slice Tryz.underlying91 rfl) ?_
                  refine s_yes rfl rfl ?_
                  refine s_val rfl (v_add rfl rfl (by first | exact w64 (by omega) | rfl)) ?_
                  refine s_yes rfl rfl ?_
                  refine s_val rfl (v_eql rfl rfl) ?_
                  refine s_val rfl (v_pick_t rfl rfl) ?_
                  refine s_val rfl (v_move rfl) ?_
                  refine s_and rfl rfl rfl ?_ ?_
                  · intro g5_56
                    refine s_val rfl (v_move rfl) ?_
                    refine s_yes rfl rfl ?_
                    refine s_val rfl (v_move rfl) ?_
                    refine s_yes rfl rfl ?_
                    refine s_do rfl (d_call Tryz.call35 rfl (zhOut_spec W0 _ none (.inl rfl) n)) ?_
                    rintro _ B_ ⟨rfl, hB_⟩
                    obtain rfl := hB_.symm
                    refine s_yes rfl rfl ?_
                    refine s_val rfl (v_len_slice Tryz.underlying93 rfl) ?_
                    refine s_yes rfl rfl ?_
                    refine s_val rfl (v_move rfl) ?_
                    refine s_yes rfl rfl ?_
                    refine s_do rfl (d_call Tryz.call35 rfl (zhOut_spec W0 _ (some ⟨bu, 0, none⟩) (.inr ⟨bu, rfl, inferInstance⟩) n)) ?_
                    rintro _ B_ ⟨rfl, hB_⟩
                    obtain rfl := hB_.symm
                    refine s_yes rfl rfl ?_
                    refine s_val rfl (v_len_slice Tryz.underlying93 rfl) ?_
                    refine s_yes rfl rfl ?_
                    refine s_val rfl (v_add rfl rfl (by first | exact w64 (by omega) | rfl)) ?_
                    refine s_yes rfl rfl ?_
                    refine s_val rfl (v_eql rfl rfl) ?_
                    refine s_val rfl (v_pick_t rfl rfl) ?_
                    refine s_val rfl (v_move rfl) ?_
                    refine s_and rfl rfl rfl ?_ ?_
                    · intro g5_67
                      refine s_val rfl (v_move rfl) ?_
                      refine s_yes rfl rfl ?_
                      refine s_do rfl (d_call Tryz.call36 rfl (zhLog_spec W0 _ none (.inl rfl))) ?_
                      rintro _ B_ ⟨rfl, hB_⟩
                      obtain rfl := hB_.symm
                      refine s_yes rfl rfl ?_
                      refine s_val rfl (v_len_slice Tryz.underlying95 rfl) ?_
                      refine s_yes rfl rfl ?_
                      refine s_do rfl (d_call Tryz.call36 rfl (zhLog_spec W0 _ (some ⟨bu, 0, none⟩) (.inr ⟨bu, rfl, inferInstance⟩))) ?_
                      rintro _ B_ ⟨rfl, hB_⟩
                      obtain rfl := hB_.symm
                      refine s_yes rfl rfl ?_
                      refine s_val rfl (v_len_slice Tryz.underlying95 rfl) ?_
                      refine s_yes rfl rfl ?_
                      refine s_val rfl (v_add rfl rfl (by first | exact w64 (by omega) | rfl)) ?_
                      refine s_yes rfl rfl ?_
                      refine s_val rfl (v_eql rfl rfl) ?_
                      refine s_val rfl (v_pick_t rfl rfl) ?_
                      refine s_val rfl (v_assign rfl) ?_
                      refine x_nil ?_
                      refine n_then ?_
                      refine x_ret ?_
                      refine x_done (.inl rfl) (.cons (r_tmp rfl) .nil) ?_
                      exact ⟨_, ⟨rfl, rfl⟩, inferInstance⟩
                    · intro g5_67
                      first | exact absurd rfl g5_67 | exact absurd (by simp) g5_67 | exact absurd (by decide) g5_67
                  · intro g5_56
                    first | exact absurd rfl g5_56 | exact absurd (by simp) g5_56 | exact absurd (by decide) g5_56
                · intro g5_45
                  first | exact absurd rfl g5_45 | exact absurd (by simp) g5_45 | exact absurd (by decide) g5_45
              · intro g5_41
                first | exact absurd rfl g5_41 | exact absurd (by simp) g5_41 | exact absurd (by decide) g5_41
            · intro g5_36
              first | exact absurd rfl g5_36 | exact absurd (by simp) g5_36 | exact absurd (by decide) g5_36
          · intro g5_29
            first | exact absurd rfl g5_29 | exact absurd (by simp) g5_29 | exact absurd (by decide) g5_29
        · intro g5_18
          first | exact absurd rfl g5_18 | exact absurd (by simp) g5_18 | exact absurd (by decide) g5_18
      · intro g5_13
        first | exact absurd rfl g5_13 | exact absurd (by simp) g5_13 | exact absurd (by decide) g5_13
    · intro g5_9
      first | exact absurd rfl g5_9 | exact absurd (by simp) g5_9 | exact absurd (by decide) g5_9
  · intro g5_4
    first | exact absurd rfl g5_4 | exact absurd (by simp) g5_4 | exact absurd (by decide) g5_4
end Go.Proofs.YteolepiendmhlaaGreatDoor
