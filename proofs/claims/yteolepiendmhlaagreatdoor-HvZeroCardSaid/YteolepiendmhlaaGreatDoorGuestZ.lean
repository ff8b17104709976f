/-
  Layer 36 (guest): one that nobody made; the walk of GuestZero.
-/
import Derived.Test.YteolepiendmhlaaGreatDoorBase
import Derived.Test.YteolepiendmhlaaGreatDoorZero
import Derived.Test.YteolepiendmhlaaGreatDoorArr
namespace Go.Proofs.YteolepiendmhlaaGreatDoor
open Go.RowKit
set_option linter.unusedSimpArgs false
set_option linter.unusedVariables false
set_option maxRecDepth 20000

abbrev zgO : Obj := cob [.pointer none, .pointer none, .pointer none, .pointer none, .pointer none, .pointer none, .pointer none, .pointer none, .bool false, .int .u32 0, .int .u32 0, .int .u32 0, .int .u32 0, .int .i64 0, .slice none 0 0, .slice none 0 0, .slice none 0 0, .slice none 0 0, .slice none 0 0, .int .i64 0, .int .i64 0, .int .i64 0, .slice none 0 0, .pointer none, .pointer none, .pointer none, .pointer none, .int .i64 0] 47
theorem zgNone_spec (W0 : World) (A : List HP) (p : Option Addr) (h : Zo zgO p A) : Spec Tryz.prog W0 37 [.pointer p] A (fun v B => v = .bool true ∧ B = A) := by
  rcases h with rfl | ⟨b, rfl, h⟩
  · skip
    refine spec_body Tryz.func37 Tryz.ntmps37 rfl rfl ?_
    refine x_seq ?_
    refine x_region ?_
    refine s_val rfl (v_assign rfl) ?_
    refine x_nil ?_
    refine n_then ?_
    refine x_seq ?_
    refine x_region ?_
    refine s_val rfl (v_move rfl) ?_
    refine s_val rfl (v_eql_ptr_nil Tryz.underlying23 rfl rfl) ?_
    refine s_val rfl (v_move rfl) ?_
    refine s_or rfl rfl rfl ?_ ?_
    · intro g1_3
      refine s_no rfl rfl rfl rfl ?_
      refine s_no rfl rfl rfl rfl ?_
      refine s_no rfl rfl rfl rfl ?_
      refine s_no rfl rfl rfl rfl ?_
      refine s_val rfl (v_pick_t rfl rfl) ?_
      refine s_val rfl (v_assign rfl) ?_
      refine x_nil ?_
      refine n_then ?_
      refine x_ret ?_
      refine x_done (.inl rfl) (.cons (r_tmp rfl) .nil) ?_
      exact ⟨_, ⟨rfl, rfl⟩, inferInstance⟩
    · intro g1_3
      exact absurd rfl g1_3
  · skip
    refine spec_body Tryz.func37 Tryz.ntmps37 rfl rfl ?_
    refine x_seq ?_
    refine x_region ?_
    refine s_val rfl (v_assign rfl) ?_
    refine x_nil ?_
    refine n_then ?_
    refine x_seq ?_
    refine x_region ?_
    refine s_val rfl (v_move rfl) ?_
    refine s_val rfl (v_eql_ptr_nil Tryz.underlying23 rfl rfl) ?_
    refine s_val rfl (v_move rfl) ?_
    refine s_or rfl rfl rfl ?_ ?_
    · intro g1_3
      cases g1_3
    · intro g1_3
      refine s_val rfl (v_move rfl) ?_
      refine s_yes rfl rfl ?_
      refine s_val rfl (v_nilCheck rfl) ?_
      refine s_yes rfl rfl ?_
      refine s_val rfl (v_fieldAddr rfl Tryz.underlying47 rfl Tryz.sizeOf43 rfl (by first | exact Nat.zero_add _ | rfl)) ?_
      refine s_yes rfl rfl ?_
      refine s_val rfl (v_load Tryz.isAgg43 rfl (zo_cell h rfl)) ?_
      refine s_yes rfl rfl ?_
      refine s_val rfl (v_eql_ptr_nil Tryz.underlying43 rfl rfl) ?_
      refine s_val rfl (v_pick_f rfl rfl) ?_
      refine s_val rfl (v_assign rfl) ?_
      refine x_nil ?_
      refine n_then ?_
      refine x_ret ?_
      refine x_done (.inl rfl) (.cons (r_tmp rfl) .nil) ?_
      exact ⟨_, ⟨rfl, rfl⟩, inferInstance⟩
theorem zgStep_spec (W0 : World) (A : List HP) (p : Option Addr) (h : Zo zgO p A) : Spec Tryz.prog W0 6 [.pointer p] A (fun v B => v = .int .i64 5 ∧ B = A) := by
  refine spec_body Tryz.func6 Tryz.ntmps6 rfl rfl ?_
  refine x_seq ?_
  refine x_region ?_
  refine s_val rfl (v_assign rfl) ?_
  refine x_nil ?_
  refine n_then ?_
  refine x_seq ?_
  refine x_seq ?_
  refine x_region ?_
  refine s_val rfl (v_move rfl) ?_
  refine s_do rfl (d_call Tryz.call37 rfl (zgNone_spec W0 _ p h)) ?_
  rintro _ B_ ⟨rfl, hB_⟩
  obtain rfl := hB_.symm
  refine x_nil ?_
  refine n_then ?_
  refine x_if rfl ?_ ?_
  · intro c1
    refine x_seq ?_
    refine x_region ?_
    refine s_val rfl (v_assign rfl) ?_
    refine x_nil ?_
    refine n_then ?_
    refine x_ret ?_
    refine r_then ?_
    refine x_done (.inl rfl) (.cons (r_tmp rfl) .nil) ?_
    exact ⟨_, ⟨rfl, rfl⟩, inferInstance⟩
  · intro c1
    exact absurd rfl c1
theorem zgAnswer_spec (W0 : World) (A : List HP) (p : Option Addr) (h : Zo zgO p A) (i : Int) (w : Nat) : Spec Tryz.prog W0 7 [.pointer p, .int .i64 i, .int .u32 w] A (fun v B => v = .int .i64 7 ∧ B = A) := by
  refine spec_body Tryz.func7 Tryz.ntmps7 rfl rfl ?_
  refine x_seq ?_
  refine x_region ?_
  refine s_val rfl (v_assign rfl) ?_
  refine x_nil ?_
  refine n_then ?_
  refine x_seq ?_
  refine x_seq ?_
  refine x_region ?_
  refine s_val rfl (v_move rfl) ?_
  refine s_do rfl (d_call Tryz.call37 rfl (zgNone_spec W0 _ p h)) ?_
  rintro _ B_ ⟨rfl, hB_⟩
  obtain rfl := hB_.symm
  refine x_nil ?_
  refine n_then ?_
  refine x_if rfl ?_ ?_
  · intro c1
    refine x_seq ?_
    refine x_region ?_
    refine s_val rfl (v_assign rfl) ?_
    refine x_nil ?_
    refine n_then ?_
    refine x_ret ?_
    refine r_then ?_
    refine x_done (.inl rfl) (.cons (r_tmp rfl) .nil) ?_
    exact ⟨_, ⟨rfl, rfl⟩, inferInstance⟩
  · intro c1
    exact absurd rfl c1
theorem zgHalt_spec (W0 : World) (A : List HP) (p : Option Addr) (h : Zo zgO p A) : Spec Tryz.prog W0 8 [.pointer p] A (fun v B => v = .int .i64 7 ∧ B = A) := by
  refine spec_body Tryz.func8 Tryz.ntmps8 rfl rfl ?_
  refine x_seq ?_
  refine x_region ?_
  refine s_val rfl (v_assign rfl) ?_
  refine x_nil ?_
  refine n_then ?_
  refine x_seq ?_
  refine x_seq ?_
  refine x_region ?_
  refine s_val rfl (v_move rfl) ?_
  refine s_do rfl (d_call Tryz.call37 rfl (zgNone_spec W0 _ p h)) ?_
  rintro _ B_ ⟨rfl, hB_⟩
  obtain rfl := hB_.symm
  refine x_nil ?_
  refine n_then ?_
  refine x_if rfl ?_ ?_
  · intro c1
    refine x_seq ?_
    refine x_region ?_
    refine s_val rfl (v_assign rfl) ?_
    refine x_nil ?_
    refine n_then ?_
    refine x_ret ?_
    refine r_then ?_
    refine x_done (.inl rfl) (.cons (r_tmp rfl) .nil) ?_
    exact ⟨_, ⟨rfl, rfl⟩, inferInstance⟩
  · intro c1
    exact absurd rfl c1
theorem zgRestart_spec (W0 : World) (A : List HP) (p : Option Addr) (h : Zo zgO p A) : Spec Tryz.prog W0 9 [.pointer p] A (fun v B => v = .int .i64 7 ∧ B = A) := by
  refine spec_body Tryz.func9 Tryz.ntmps9 rfl rfl ?_
  refine x_seq ?_
  refine x_region ?_
  refine s_val rfl (v_assign rfl) ?_
  refine x_nil ?_
  refine n_then ?_
  refine x_seq ?_
  refine x_seq ?_
  refine x_region ?_
  refine s_val rfl (v_move rfl) ?_
  refine s_do rfl (d_call Tryz.call37 rfl (zgNone_spec W0 _ p h)) ?_
  rintro _ B_ ⟨rfl, hB_⟩
  obtain rfl := hB_.symm
  refine x_nil ?_
  refine n_then ?_
  refine x_if rfl ?_ ?_
  · intro c1
    refine x_seq ?_
    refine x_region ?_
    refine s_val rfl (v_assign rfl) ?_
    refine x_nil ?_
    refine n_then ?_
    refine x_ret ?_
    refine r_then ?_
    refine x_done (.inl rfl) (.cons (r_tmp rfl) .nil) ?_
    exact ⟨_, ⟨rfl, rfl⟩, inferInstance⟩
  · intro c1
    exact absurd rfl c1
theorem zgTake_spec (W0 : World) (A : List HP) (p : Option Addr) (h : Zo zgO p A) (i : Int) : Spec Tryz.prog W0 10 [.pointer p, .int .i64 i] A (fun v B => v = .int .i64 7 ∧ B = A) := by
  refine spec_body Tryz.func10 Tryz.ntmps10 rfl rfl ?_
  refine x_seq ?_
  refine x_region ?_
  refine s_val rfl (v_assign rfl) ?_
  refine x_nil ?_
  refine n_then ?_
  refine x_seq ?_
  refine x_block ?_
  refine x_seq ?_
  refine x_region ?_
  refine s_val rfl (v_move rfl) ?_
  refine s_do rfl (d_call Tryz.call37 rfl (zgNone_spec W0 _ p h)) ?_
  rintro _ B_ ⟨rfl, hB_⟩
  obtain rfl := hB_.symm
  refine s_val rfl (v_assign rfl) ?_
  refine x_nil ?_
  refine n_then ?_
  refine x_if rfl ?_ ?_
  · intro c1
    refine x_seq ?_
    refine x_region ?_
    refine s_val rfl (v_assign rfl) ?_
    refine x_nil ?_
    refine n_then ?_
    refine x_ret ?_
    refine r_block ?_
    refine r_then ?_
    refine x_done (.inl rfl) (.cons (r_tmp rfl) .nil) ?_
    exact ⟨_, ⟨rfl, rfl⟩, inferInstance⟩
  · intro c1
    exact absurd rfl c1
theorem zgGive_spec (W0 : World) (A : List HP) (p : Option Addr) (h : Zo zgO p A) (i : Int) : Spec Tryz.prog W0 11 [.pointer p, .int .i64 i] A (fun v B => v = .int .i64 7 ∧ B = A) := by
  refine spec_body Tryz.func11 Tryz.ntmps11 rfl rfl ?_
  refine x_seq ?_
  refine x_region ?_
  refine s_val rfl (v_assign rfl) ?_
  refine x_nil ?_
  refine n_then ?_
  refine x_seq ?_
  refine x_block ?_
  refine x_seq ?_
  refine x_region ?_
  refine s_val rfl (v_move rfl) ?_
  refine s_do rfl (d_call Tryz.call37 rfl (zgNone_spec W0 _ p h)) ?_
  rintro _ B_ ⟨rfl, hB_⟩
  obtain rfl := hB_.symm
  refine s_val rfl (v_assign rfl) ?_
  refine x_nil ?_
  refine n_then ?_
  refine x_if rfl ?_ ?_
  · intro c1
    refine x_seq ?_
    refine x_region ?_
    refine s_val rfl (v_assign rfl) ?_
    refine x_nil ?_
    refine n_then ?_
    refine x_ret ?_
    refine r_block ?_
    refine r_then ?_
    refine x_done (.inl rfl) (.cons (r_tmp rfl) .nil) ?_
    exact ⟨_, ⟨rfl, rfl⟩, inferInstance⟩
  · intro c1
    exact absurd rfl c1
theorem zgHalted_spec (W0 : World) (A : List HP) (p : Option Addr) (h : Zo zgO p A) : Spec Tryz.prog W0 12 [.pointer p] A (fun v B => v = .bool false ∧ B = A) := by
  refine spec_body Tryz.func12 Tryz.ntmps12 rfl rfl ?_
  refine x_seq ?_
  refine x_region ?_
  refine s_val rfl (v_assign rfl) ?_
  refine x_nil ?_
  refine n_then ?_
  refine x_seq ?_
  refine x_region ?_
  refine s_val rfl (v_move rfl) ?_
  refine s_do rfl (d_call Tryz.call37 rfl (zgNone_spec W0 _ p h)) ?_
  rintro _ B_ ⟨rfl, hB_⟩
  obtain rfl := hB_.symm
  refine s_val rfl (v_not rfl) ?_
  refine s_val rfl (v_move rfl) ?_
  refine s_and rfl rfl rfl ?_ ?_
  · intro g1_4
    exact absurd g1_4 (by decide)
  · intro g1_4
    refine s_no rfl rfl rfl rfl ?_
    refine s_no rfl rfl rfl rfl ?_
    refine s_no rfl rfl rfl rfl ?_
    refine s_no rfl rfl rfl rfl ?_
    refine s_val rfl (v_pick_f rfl rfl) ?_
    refine s_val rfl (v_assign rfl) ?_
    refine x_nil ?_
    refine n_then ?_
    refine x_ret ?_
    refine x_done (.inl rfl) (.cons (r_tmp rfl) .nil) ?_
    exact ⟨_, ⟨rfl, rfl⟩, inferInstance⟩
theorem zgClock_spec (W0 : World) (A : List HP) (p : Option Addr) (h : Zo zgO p A) : Spec Tryz.prog W0 13 [.pointer p] A (fun v B => v = .int .i64 0 ∧ B = A) := by
  refine spec_body Tryz.func13 Tryz.ntmps13 rfl rfl ?_
  refine x_seq ?_
  refine x_region ?_
  refine s_val rfl (v_assign rfl) ?_
  refine x_nil ?_
  refine n_then ?_
  refine x_seq ?_
  refine x_seq ?_
  refine x_region ?_
  refine s_val rfl (v_move rfl) ?_
  refine s_do rfl (d_call Tryz.call37 rfl (zgNone_spec W0 _ p h)) ?_
  rintro _ B_ ⟨rfl, hB_⟩
  obtain rfl := hB_.symm
  refine x_nil ?_
  refine n_then ?_
  refine x_if rfl ?_ ?_
  · intro c1
    refine x_seq ?_
    refine x_region ?_
    refine s_val rfl (v_assign rfl) ?_
    refine x_nil ?_
    refine n_then ?_
    refine x_ret ?_
    refine r_then ?_
    refine x_done (.inl rfl) (.cons (r_tmp rfl) .nil) ?_
    exact ⟨_, ⟨rfl, rfl⟩, inferInstance⟩
  · intro c1
    exact absurd rfl c1
theorem zgMode_spec (W0 : World) (A : List HP) (p : Option Addr) (h : Zo zgO p A) : Spec Tryz.prog W0 14 [.pointer p] A (fun v B => v = .agg #[.bool false, .int .i64 0, .bool false] ∧ B = A) := by
  refine spec_body Tryz.func14 Tryz.ntmps14 rfl rfl ?_
  refine x_seq ?_
  refine x_region ?_
  refine s_do rfl (d_allocA Tryz.zeroValue57) ?_
  rintro _ _ ⟨b1, rfl, rfl⟩
  refine x_nil ?_
  refine n_then ?_
  refine x_seq ?_
  refine x_seq ?_
  refine x_region ?_
  refine s_val rfl (v_move rfl) ?_
  refine s_do rfl (d_call Tryz.call37 rfl (zgNone_spec W0 _ p h.cons)) ?_
  rintro _ B_ ⟨rfl, hB_⟩
  obtain rfl := hB_.symm
  refine x_nil ?_
  refine n_then ?_
  refine x_if rfl ?_ ?_
  · intro c1
    refine x_seq ?_
    refine x_region ?_
    refine s_val rfl (v_build Tryz.underlying57 Tryz.zeroValue57 (sized_cons Tryz.sizeOf4 (sized_cons Tryz.sizeOf3 (sized_cons Tryz.sizeOf4 sized_nil))) fil_nil) ?_
    refine s_do0 (d_storeAll Tryz.sizeOf57 rfl rfl rfl rfl rfl) ?_
    rintro _ _ rfl
    refine x_nil ?_
    refine n_then ?_
    refine x_ret ?_
    refine r_then ?_
    refine x_done (.inl rfl) (.cons (r_all Tryz.isAgg57 Tryz.sizeOf57 rfl rfl) .nil) ?_
    exact ⟨_, ⟨rfl, rfl⟩, inferInstance⟩
  · intro c1
    exact absurd rfl c1
theorem zgPc_spec (W0 : World) (A : List HP) (p : Option Addr) (h : Zo zgO p A) : Spec Tryz.prog W0 15 [.pointer p] A (fun v B => v = .int .u32 0 ∧ B = A) := by
  refine spec_body Tryz.func15 Tryz.ntmps15 rfl rfl ?_
  refine x_seq ?_
  refine x_region ?_
  refine s_val rfl (v_assign rfl) ?_
  refine x_nil ?_
  refine n_then ?_
  refine x_seq ?_
  refine x_seq ?_
  refine x_region ?_
  refine s_val rfl (v_move rfl) ?_
  refine s_do rfl (d_call Tryz.call37 rfl (zgNone_spec W0 _ p h)) ?_
  rintro _ B_ ⟨rfl, hB_⟩
  obtain rfl := hB_.symm
  refine x_nil ?_
  refine n_then ?_
  refine x_if rfl ?_ ?_
  · intro c1
    refine x_seq ?_
    refine x_region ?_
    refine s_val rfl (v_assign rfl) ?_
    refine x_nil ?_
    refine n_then ?_
    refine x_ret ?_
    refine r_then ?_
    refine x_done (.inl rfl) (.cons (r_tmp rfl) .nil) ?_
    exact ⟨_, ⟨rfl, rfl⟩, inferInstance⟩
  · intro c1
    exact absurd rfl c1
theorem zgControl_spec (W0 : World) (A : List HP) (p : Option Addr) (h : Zo zgO p A) : Spec Tryz.prog W0 16 [.pointer p] A (fun v B => v = .agg #[.int .u32 0, .int .u32 0, .int .u32 0, .int .u32 0, .int .u32 0, .int .u32 0, .int .u32 0] ∧ B = A) := by
  refine spec_body Tryz.func16 Tryz.ntmps16 rfl rfl ?_
  refine x_seq ?_
  refine x_region ?_
  refine s_do rfl (d_allocA Tryz.zeroValue60) ?_
  rintro _ _ ⟨b1, rfl, rfl⟩
  refine x_nil ?_
  refine n_then ?_
  refine x_seq ?_
  refine x_seq ?_
  refine x_region ?_
  refine s_val rfl (v_move rfl) ?_
  refine s_do rfl (d_call Tryz.call37 rfl (zgNone_spec W0 _ p h.cons)) ?_
  rintro _ B_ ⟨rfl, hB_⟩
  obtain rfl := hB_.symm
  refine x_nil ?_
  refine n_then ?_
  refine x_if rfl ?_ ?_
  · intro c1
    refine x_seq ?_
    refine x_region ?_
    refine s_val rfl (v_build0 Tryz.underlying60 Tryz.sizeOf22 Tryz.zeroValue60 rfl) ?_
    refine s_do0 (d_storeAll Tryz.sizeOf60 rfl rfl rfl rfl rfl) ?_
    rintro _ _ rfl
    refine x_nil ?_
    refine n_then ?_
    refine x_ret ?_
    refine r_then ?_
    refine x_done (.inl rfl) (.cons (r_all Tryz.isAgg60 Tryz.sizeOf60 rfl rfl) .nil) ?_
    exact ⟨_, ⟨rfl, rfl⟩, inferInstance⟩
  · intro c1
    exact absurd rfl c1
theorem zgView_spec (W0 : World) (A : List HP) (p : Option Addr) (h : Zo zgO p A) : Spec Tryz.prog W0 17 [.pointer p] A (fun v B => v = .pointer none ∧ B = A) := by
  refine spec_body Tryz.func17 Tryz.ntmps17 rfl rfl ?_
  refine x_seq ?_
  refine x_region ?_
  refine s_val rfl (v_assign rfl) ?_
  refine x_nil ?_
  refine n_then ?_
  refine x_seq ?_
  refine x_seq ?_
  refine x_region ?_
  refine s_val rfl (v_move rfl) ?_
  refine s_do rfl (d_call Tryz.call37 rfl (zgNone_spec W0 _ p h)) ?_
  rintro _ B_ ⟨rfl, hB_⟩
  obtain rfl := hB_.symm
  refine x_nil ?_
  refine n_then ?_
  refine x_if rfl ?_ ?_
  · intro c1
    refine x_seq ?_
    refine x_region ?_
    refine s_val rfl (v_assign rfl) ?_
    refine x_nil ?_
    refine n_then ?_
    refine x_ret ?_
    refine r_then ?_
    refine x_done (.inl rfl) (.cons (r_tmp rfl) .nil) ?_
    exact ⟨_, ⟨rfl, rfl⟩, inferInstance⟩
  · intro c1
    exact absurd rfl c1
theorem zgMmu_spec (W0 : World) (A : List HP) (p : Option Addr) (h : Zo zgO p A) : Spec Tryz.prog W0 18 [.pointer p] A (fun v B => v = .pointer none ∧ B = A) := by
  refine spec_body Tryz.func18 Tryz.ntmps18 rfl rfl ?_
  refine x_seq ?_
  refine x_region ?_
  refine s_val rfl (v_assign rfl) ?_
  refine x_nil ?_
  refine n_then ?_
  refine x_seq ?_
  refine x_seq ?_
  refine x_region ?_
  refine s_val rfl (v_move rfl) ?_
  refine s_do rfl (d_call Tryz.call37 rfl (zgNone_spec W0 _ p h)) ?_
  rintro _ B_ ⟨rfl, hB_⟩
  obtain rfl := hB_.symm
  refine x_nil ?_
  refine n_then ?_
  refine x_if rfl ?_ ?_
  · intro c1
    refine x_seq ?_
    refine x_region ?_
    refine s_val rfl (v_assign rfl) ?_
    refine x_nil ?_
    refine n_then ?_
    refine x_ret ?_
    refine r_then ?_
    refine x_done (.inl rfl) (.cons (r_tmp rfl) .nil) ?_
    exact ⟨_, ⟨rfl, rfl⟩, inferInstance⟩
  · intro c1
    exact absurd rfl c1
theorem zgQueue_spec (W0 : World) (A : List HP) (p : Option Addr) (h : Zo zgO p A) (i : Int) : Spec Tryz.prog W0 19 [.pointer p, .int .i64 i] A (fun v B => v = .pointer none ∧ B = A) := by
  refine spec_body Tryz.func19 Tryz.ntmps19 rfl rfl ?_
  refine x_seq ?_
  refine x_region ?_
  refine s_val rfl (v_assign rfl) ?_
  refine x_nil ?_
  refine n_then ?_
  refine x_seq ?_
  refine x_seq ?_
  refine x_region ?_
  refine s_val rfl (v_move rfl) ?_
  refine s_do rfl (d_call Tryz.call37 rfl (zgNone_spec W0 _ p h)) ?_
  rintro _ B_ ⟨rfl, hB_⟩
  obtain rfl := hB_.symm
  refine s_val rfl (v_move rfl) ?_
  refine s_or rfl rfl rfl ?_ ?_
  · intro g1_3
    refine s_no rfl rfl rfl rfl ?_
    refine s_val rfl (v_pick_t rfl rfl) ?_
    refine s_val rfl (v_move rfl) ?_
    refine s_no rfl rfl rfl rfl ?_
    refine s_no rfl rfl rfl rfl ?_
    refine s_val rfl (v_pick_t rfl rfl) ?_
    refine x_nil ?_
    refine n_then ?_
    refine x_ift rfl ?_
    refine x_seq ?_
    refine x_region ?_
    refine s_val rfl (v_assign rfl) ?_
    refine x_nil ?_
    refine n_then ?_
    refine x_ret ?_
    refine r_then ?_
    refine x_done (.inl rfl) (.cons (r_tmp rfl) .nil) ?_
    exact ⟨_, ⟨rfl, rfl⟩, inferInstance⟩
  · intro g1_3
    exact absurd rfl g1_3
theorem zgVic_spec (W0 : World) (A : List HP) (p : Option Addr) (h : Zo zgO p A) : Spec Tryz.prog W0 20 [.pointer p] A (fun v B => v = .pointer none ∧ B = A) := by
  refine spec_body Tryz.func20 Tryz.ntmps20 rfl rfl ?_
  refine x_seq ?_
  refine x_region ?_
  refine s_val rfl (v_assign rfl) ?_
  refine x_nil ?_
  refine n_then ?_
  refine x_seq ?_
  refine x_seq ?_
  refine x_region ?_
  refine s_val rfl (v_move rfl) ?_
  refine s_do rfl (d_call Tryz.call37 rfl (zgNone_spec W0 _ p h)) ?_
  rintro _ B_ ⟨rfl, hB_⟩
  obtain rfl := hB_.symm
  refine x_nil ?_
  refine n_then ?_
  refine x_if rfl ?_ ?_
  · intro c1
    refine x_seq ?_
    refine x_region ?_
    refine s_val rfl (v_assign rfl) ?_
    refine x_nil ?_
    refine n_then ?_
    refine x_ret ?_
    refine r_then ?_
    refine x_done (.inl rfl) (.cons (r_tmp rfl) .nil) ?_
    exact ⟨_, ⟨rfl, rfl⟩, inferInstance⟩
  · intro c1
    exact absurd rfl c1
theorem zgTimers_spec (W0 : World) (A : List HP) (p : Option Addr) (h : Zo zgO p A) : Spec Tryz.prog W0 21 [.pointer p] A (fun v B => v = .pointer none ∧ B = A) := by
  refine spec_body Tryz.func21 Tryz.ntmps21 rfl rfl ?_
  refine x_seq ?_
  refine x_region ?_
  refine s_val rfl (v_assign rfl) ?_
  refine x_nil ?_
  refine n_then ?_
  refine x_seq ?_
  refine x_seq ?_
  refine x_region ?_
  refine s_val rfl (v_move rfl) ?_
  refine s_do rfl (d_call Tryz.call37 rfl (zgNone_spec W0 _ p h)) ?_
  rintro _ B_ ⟨rfl, hB_⟩
  obtain rfl := hB_.symm
  refine x_nil ?_
  refine n_then ?_
  refine x_if rfl ?_ ?_
  · intro c1
    refine x_seq ?_
    refine x_region ?_
    refine s_val rfl (v_assign rfl) ?_
    refine x_nil ?_
    refine n_then ?_
    refine x_ret ?_
    refine r_then ?_
    refine x_done (.inl rfl) (.cons (r_tmp rfl) .nil) ?_
    exact ⟨_, ⟨rfl, rfl⟩, inferInstance⟩
  · intro c1
    exact absurd rfl c1
theorem zgBox_spec (W0 : World) (A : List HP) (p : Option Addr) (h : Zo zgO p A) : Spec Tryz.prog W0 22 [.pointer p] A (fun v B => v = .pointer none ∧ B = A) := by
  refine spec_body Tryz.func22 Tryz.ntmps22 rfl rfl ?_
  refine x_seq ?_
  refine x_region ?_
  refine s_val rfl (v_assign rfl) ?_
  refine x_nil ?_
  refine n_then ?_
  refine x_seq ?_
  refine x_seq ?_
  refine x_region ?_
  refine s_val rfl (v_move rfl) ?_
  refine s_do rfl (d_call Tryz.call37 rfl (zgNone_spec W0 _ p h)) ?_
  rintro _ B_ ⟨rfl, hB_⟩
  obtain rfl := hB_.symm
  refine x_nil ?_
  refine n_then ?_
  refine x_if rfl ?_ ?_
  · intro c1
    refine x_seq ?_
    refine x_region ?_
    refine s_val rfl (v_assign rfl) ?_
    refine x_nil ?_
    refine n_then ?_
    refine x_ret ?_
    refine r_then ?_
    refine x_done (.inl rfl) (.cons (r_tmp rfl) .nil) ?_
    exact ⟨_, ⟨rfl, rfl⟩, inferInstance⟩
  · intro c1
    exact absurd rfl c1
theorem zgTrace_spec (W0 : World) (A : List HP) (p : Option Addr) (h : Zo zgO p A) : Spec Tryz.prog W0 23 [.pointer p] A (fun v B => v = .pointer none ∧ B = A) := by
  refine spec_body Tryz.func23 Tryz.ntmps23 rfl rfl ?_
  refine x_seq ?_
  refine x_region ?_
  refine s_val rfl (v_assign rfl) ?_
  refine x_nil ?_
  refine n_then ?_
  refine x_seq ?_
  refine x_seq ?_
  refine x_region ?_
  refine s_val rfl (v_move rfl) ?_
  refine s_do rfl (d_call Tryz.call37 rfl (zgNone_spec W0 _ p h)) ?_
  rintro _ B_ ⟨rfl, hB_⟩
  obtain rfl := hB_.symm
  refine x_nil ?_
  refine n_then ?_
  refine x_if rfl ?_ ?_
  · intro c1
    refine x_seq ?_
    refine x_region ?_
    refine s_val rfl (v_assign rfl) ?_
    refine x_nil ?_
    refine n_then ?_
    refine x_ret ?_
    refine r_then ?_
    refine x_done (.inl rfl) (.cons (r_tmp rfl) .nil) ?_
    exact ⟨_, ⟨rfl, rfl⟩, inferInstance⟩
  · intro c1
    exact absurd rfl c1
theorem zgRead_spec (W0 : World) (A : List HP) (p : Option Addr) (h : Zo zgO p A) (i : Int) : Spec Tryz.prog W0 24 [.pointer p, .int .i64 i] A (fun v B => v = .int .u32 0 ∧ B = A) := by
  refine spec_body Tryz.func24 Tryz.ntmps24 rfl rfl ?_
  refine x_seq ?_
  refine x_region ?_
  refine s_val rfl (v_assign rfl) ?_
  refine x_nil ?_
  refine n_then ?_
  refine x_seq ?_
  refine x_seq ?_
  refine x_region ?_
  refine s_val rfl (v_move rfl) ?_
  refine s_do rfl (d_call Tryz.call37 rfl (zgNone_spec W0 _ p h)) ?_
  rintro _ B_ ⟨rfl, hB_⟩
  obtain rfl := hB_.symm
  refine s_val rfl (v_move rfl) ?_
  refine s_or rfl rfl rfl ?_ ?_
  · intro g1_3
    refine s_no rfl rfl rfl rfl ?_
    refine s_no rfl rfl rfl rfl ?_
    refine s_val rfl (v_pick_t rfl rfl) ?_
    refine x_nil ?_
    refine n_then ?_
    refine x_ift rfl ?_
    refine x_seq ?_
    refine x_region ?_
    refine s_val rfl (v_assign rfl) ?_
    refine x_nil ?_
    refine n_then ?_
    refine x_ret ?_
    refine r_then ?_
    refine x_done (.inl rfl) (.cons (r_tmp rfl) .nil) ?_
    exact ⟨_, ⟨rfl, rfl⟩, inferInstance⟩
  · intro g1_3
    exact absurd rfl g1_3
theorem zgSet_spec (W0 : World) (A : List HP) (p : Option Addr) (h : Zo zgO p A) (i : Int) (w : Nat) : Spec Tryz.prog W0 25 [.pointer p, .int .i64 i, .int .u32 w] A (fun v B => v = .int .i64 7 ∧ B = A) := by
  refine spec_body Tryz.func25 Tryz.ntmps25 rfl rfl ?_
  refine x_seq ?_
  refine x_region ?_
  refine s_val rfl (v_assign rfl) ?_
  refine x_nil ?_
  refine n_then ?_
  refine x_seq ?_
  refine x_seq ?_
  refine x_region ?_
  refine s_val rfl (v_move rfl) ?_
  refine s_do rfl (d_call Tryz.call37 rfl (zgNone_spec W0 _ p h)) ?_
  rintro _ B_ ⟨rfl, hB_⟩
  obtain rfl := hB_.symm
  refine x_nil ?_
  refine n_then ?_
  refine x_if rfl ?_ ?_
  · intro c1
    refine x_seq ?_
    refine x_region ?_
    refine s_val rfl (v_assign rfl) ?_
    refine x_nil ?_
    refine n_then ?_
    refine x_ret ?_
    refine r_then ?_
    refine x_done (.inl rfl) (.cons (r_tmp rfl) .nil) ?_
    exact ⟨_, ⟨rfl, rfl⟩, inferInstance⟩
  · intro c1
    exact absurd rfl c1
theorem zgReads_spec (W0 : World) (A : List HP) (p : Option Addr) (h : Zo zgO p A) (i : Int) (w : Nat) : Spec Tryz.prog W0 26 [.pointer p, .int .i64 i, .int .u32 w] A (fun v B => v = .int .i64 7 ∧ B = A) := by
  refine spec_body Tryz.func26 Tryz.ntmps26 rfl rfl ?_
  refine x_seq ?_
  refine x_region ?_
  refine s_val rfl (v_assign rfl) ?_
  refine x_nil ?_
  refine n_then ?_
  refine x_seq ?_
  refine x_block ?_
  refine x_seq ?_
  refine x_region ?_
  refine s_val rfl (v_move rfl) ?_
  refine s_do rfl (d_call Tryz.call37 rfl (zgNone_spec W0 _ p h)) ?_
  rintro _ B_ ⟨rfl, hB_⟩
  obtain rfl := hB_.symm
  refine s_val rfl (v_assign rfl) ?_
  refine x_nil ?_
  refine n_then ?_
  refine x_if rfl ?_ ?_
  · intro c1
    refine x_seq ?_
    refine x_region ?_
    refine s_val rfl (v_assign rfl) ?_
    refine x_nil ?_
    refine n_then ?_
    refine x_ret ?_
    refine r_block ?_
    refine r_then ?_
    refine x_done (.inl rfl) (.cons (r_tmp rfl) .nil) ?_
    exact ⟨_, ⟨rfl, rfl⟩, inferInstance⟩
  · intro c1
    exact absurd rfl c1
theorem zgRegisters_spec (W0 : World) (A : List HP) (p : Option Addr) (h : Zo zgO p A) : Spec Tryz.prog W0 27 [.pointer p] A (fun v B => v = .agg #[.int .u32 0, .int .u32 0, .int .u32 0, .int .u32 0, .int .u32 0, .int .u32 0, .int .u32 0, .int .u32 0, .int .u32 0, .int .u32 0, .int .u32 0, .int .u32 0, .int .u32 0, .int .u32 0, .int .u32 0, .int .u32 0] ∧ B = A) := by
  refine spec_body Tryz.func27 Tryz.ntmps27 rfl rfl ?_
  refine x_seq ?_
  refine x_region ?_
  refine s_do rfl (d_allocA Tryz.zeroValue71) ?_
  rintro _ _ ⟨b1, rfl, rfl⟩
  refine x_nil ?_
  refine n_then ?_
  refine x_seq ?_
  refine x_seq ?_
  refine x_region ?_
  refine s_val rfl (v_move rfl) ?_
  refine s_do rfl (d_call Tryz.call37 rfl (zgNone_spec W0 _ p h.cons)) ?_
  rintro _ B_ ⟨rfl, hB_⟩
  obtain rfl := hB_.symm
  refine x_nil ?_
  refine n_then ?_
  refine x_if rfl ?_ ?_
  · intro c1
    refine x_seq ?_
    refine x_region ?_
    refine s_val rfl (v_build0 Tryz.underlying71 Tryz.sizeOf22 Tryz.zeroValue71 rfl) ?_
    refine s_do0 (d_storeAll Tryz.sizeOf71 rfl rfl rfl rfl rfl) ?_
    rintro _ _ rfl
    refine x_nil ?_
    refine n_then ?_
    refine x_ret ?_
    refine r_then ?_
    refine x_done (.inl rfl) (.cons (r_all Tryz.isAgg71 Tryz.sizeOf71 rfl rfl) .nil) ?_
    exact ⟨_, ⟨rfl, rfl⟩, inferInstance⟩
  · intro c1
    exact absurd rfl c1
theorem zgAsked_spec (W0 : World) (A : List HP) (p : Option Addr) (h : Zo zgO p A) : Spec Tryz.prog W0 5 [.pointer p] A (fun v B => v = .tuple #[.int .u32 0, .agg #[.int .u32 0, .int .u32 0, .int .u32 0, .int .u32 0]] ∧ B = A) := by
  refine spec_body Tryz.func5 Tryz.ntmps5 rfl rfl ?_
  refine x_seq ?_
  refine x_region ?_
  refine s_val rfl (v_assign rfl) ?_
  refine s_do rfl (d_allocA Tryz.zeroValue31) ?_
  rintro _ _ ⟨b1, rfl, rfl⟩
  refine x_nil ?_
  refine n_then ?_
  refine x_seq ?_
  refine x_region ?_
  refine s_val rfl (v_move rfl) ?_
  refine s_do rfl (d_call Tryz.call27 rfl (zgRegisters_spec W0 _ p h.cons)) ?_
  rintro _ B_ ⟨rfl, hB_⟩
  obtain rfl := hB_.symm
  refine s_do rfl (d_allocA Tryz.zeroValue71) ?_
  rintro _ _ ⟨br, rfl, rfl⟩
  refine s_do0 (d_storeAll Tryz.sizeOf71 rfl rfl rfl rfl rfl) ?_
  rintro _ _ rfl
  refine x_nil ?_
  refine n_then ?_
  refine x_seq ?_
  refine x_draw [(br, 0, _)] 7 mixed rfl (sc_own sc_end) (fun hS => ?_)
  refine d_take 0 rfl rfl (by kernel_rfl) (by kernel_rfl) (by kernel_rfl) rfl hS (v_idxArr Tryz.underlying71 Tryz.sizeOf22 rfl rfl (i := 1) rfl (by decide) (by first | exact Nat.zero_add _ | rfl)) ?_
  refine d_take 1 rfl rfl (by kernel_rfl) (by kernel_rfl) (by kernel_rfl) rfl hS (v_load Tryz.isAgg22 rfl (cell_sc0 (k := 0) rfl rfl)) ?_
  refine d_take 2 rfl rfl (by kernel_rfl) (by kernel_rfl) (by kernel_rfl) rfl hS (v_sliceArrLH (i := 2) (h := 6) (o' := 2) Tryz.underlying71 Tryz.sizeOf22 rfl rfl rfl rfl rfl (by decide) (by decide) (by decide) rfl) ?_
  refine d_take 3 rfl rfl (by kernel_rfl) (by kernel_rfl) (by kernel_rfl) rfl hS (v_toArr Tryz.underlying31 rfl (by decide)) ?_
  refine d_take 4 rfl rfl (by kernel_rfl) (by kernel_rfl) (by kernel_rfl) rfl hS (v_loadAgg Tryz.isAgg31 Tryz.sizeOf31 rfl (cells_midA (n := 4) (j := 2) (cells_sc (k := 0) rfl) rfl) rfl) ?_
  refine d_take 5 rfl rfl (by kernel_rfl) (by kernel_rfl) (by kernel_rfl) rfl hS (v_assign rfl) ?_
  refine d_one 6 (by kernel_rfl) rfl rfl (d_storeAll Tryz.sizeOf31 rfl rfl rfl rfl rfl) rfl ?_; clear hS
  rintro _ _ rfl
  refine ⟨(sc_own sc_end), fun hS => ?_⟩
  refine d_done (by kernel_rfl) ?_; clear hS
  refine n_then ?_
  refine x_ret ?_
  refine x_done (.inl rfl) (.cons (r_tmp rfl) (.cons (r_all Tryz.isAgg31 Tryz.sizeOf31 rfl rfl) .nil)) ?_
  exact ⟨_, ⟨rfl, rfl⟩, inferInstance⟩
theorem GuestZero_walk (W0 : World) (page : Int) (w : Nat) : Spec Tryz.prog W0 3 [.int .i64 page, .int .u32 w] [] (fun v B => v = .bool true ∧ B = []) := by
  refine spec_body Tryz.func3 Tryz.ntmps3 rfl rfl ?_
  refine x_seq ?_
  refine x_region ?_
  refine s_val rfl (v_assign rfl) ?_
  refine x_nil ?_
  refine n_then ?_
  refine x_seq ?_
  refine x_region ?_
  refine s_val rfl (v_assign rfl) ?_
  refine x_nil ?_
  refine n_then ?_
  refine x_seq ?_
  refine x_region ?_
  refine s_do rfl (d_allocA Tryz.zeroValue47) ?_
  rintro _ _ ⟨bu, rfl, rfl⟩
  refine x_nil ?_
  refine n_then ?_
  refine x_seq ?_
  refine x_region ?_
  refine s_val rfl (v_move rfl) ?_
  refine s_do rfl (d_call Tryz.call5 rfl (zgAsked_spec W0 _ none (.inl rfl))) ?_
  rintro _ B_ ⟨rfl, hB_⟩
  obtain rfl := hB_.symm
  refine s_val rfl (v_move rfl) ?_
  refine s_val rfl (v_extract rfl rfl) ?_
  refine s_val rfl (v_extract rfl rfl) ?_
  refine s_do rfl (d_allocA Tryz.zeroValue31) ?_
  rintro _ _ ⟨b2, rfl, rfl⟩
  refine s_val rfl (v_assign rfl) ?_
  refine s_do0 (d_storeAll Tryz.sizeOf31 rfl rfl rfl rfl rfl) ?_
  rintro _ _ rfl
  refine x_nil ?_
  refine n_then ?_
  refine x_seq ?_
  refine x_region ?_
  refine s_val rfl (v_move rfl) ?_
  refine s_do rfl (d_call Tryz.call6 rfl (zgStep_spec W0 _ none (.inl rfl))) ?_
  rintro _ B_ ⟨rfl, hB_⟩
  obtain rfl := hB_.symm
  refine s_val rfl (v_eql rfl rfl) ?_
  refine s_val rfl (v_move rfl) ?_
  refine s_and rfl rfl rfl ?_ ?_
  · intro g4_4
    refine s_do rfl (d_call Tryz.call6 rfl (zgStep_spec W0 _ (some ⟨bu, 0, none⟩) (.inr ⟨bu, rfl, inferInstance⟩))) ?_
    rintro _ B_ ⟨rfl, hB_⟩
    obtain rfl := hB_.symm
    refine s_yes rfl rfl ?_
    refine s_val rfl (v_eql rfl rfl) ?_
    refine s_val rfl (v_pick_t rfl rfl) ?_
    refine s_val rfl (v_move rfl) ?_
    refine s_and rfl rfl rfl ?_ ?_
    · intro g4_8
      refine s_val rfl (v_move rfl) ?_
      refine s_yes rfl rfl ?_
      refine s_val rfl (v_eql rfl rfl) ?_
      refine s_val rfl (v_pick_t rfl rfl) ?_
      refine s_val rfl (v_move rfl) ?_
      refine s_and rfl rfl rfl ?_ ?_
      · intro g4_12
        refine s_val rfl (v_loadAll Tryz.isAgg31 Tryz.sizeOf31 rfl rfl) ?_
        refine s_yes rfl rfl ?_
        refine s_val rfl (v_build0 Tryz.underlying31 Tryz.sizeOf22 Tryz.zeroValue31 rfl) ?_
        refine s_yes rfl rfl ?_
        refine s_val rfl (v_eql_agg Tryz.eqGuardType31 rfl rfl (q_arrI (i := Tryz.t22) (ms := [0, 0, 0, 0]) (ns := [0, 0, 0, 0]) Tryz.underlying31 (by kernel_rfl) (by kernel_rfl) Tryz.underlying22 Tryz.isAgg22 rfl rfl rfl rfl)) ?_
        refine s_val rfl (v_pick_t rfl rfl) ?_
        refine s_val rfl (v_move rfl) ?_
        refine s_and rfl rfl rfl ?_ ?_
        · intro g4_17
          refine s_val rfl (v_move rfl) ?_
          refine s_yes rfl rfl ?_
          refine s_val rfl (v_move rfl) ?_
          refine s_yes rfl rfl ?_
          refine s_do rfl (d_call Tryz.call7 rfl (zgAnswer_spec W0 _ none (.inl rfl) 0 w)) ?_
          rintro _ B_ ⟨rfl, hB_⟩
          obtain rfl := hB_.symm
          refine s_yes rfl rfl ?_
          refine s_val rfl (v_eql rfl rfl) ?_
          refine s_val rfl (v_pick_t rfl rfl) ?_
          refine s_val rfl (v_move rfl) ?_
          refine s_and rfl rfl rfl ?_ ?_
          · intro g4_23
            refine s_val rfl (v_move rfl) ?_
            refine s_yes rfl rfl ?_
            refine s_do rfl (d_call Tryz.call7 rfl (zgAnswer_spec W0 _ (some ⟨bu, 0, none⟩) (.inr ⟨bu, rfl, inferInstance⟩) 0 w)) ?_
            rintro _ B_ ⟨rfl, hB_⟩
            obtain rfl := hB_.symm
            refine s_yes rfl rfl ?_
            refine s_val rfl (v_eql rfl rfl) ?_
            refine s_val rfl (v_pick_t rfl rfl) ?_
            refine s_val rfl (v_move rfl) ?_
            refine s_and rfl rfl rfl ?_ ?_
            · intro g4_28
              refine s_val rfl (v_move rfl) ?_
              refine s_yes rfl rfl ?_
              refine s_do rfl (d_call Tryz.call8 rfl (zgHalt_spec W0 _ none (.inl rfl))) ?_
              rintro _ B_ ⟨rfl, hB_⟩
              obtain rfl := hB_.symm
              refine s_yes rfl rfl ?_
              refine s_val rfl (v_eql rfl rfl) ?_
              refine s_val rfl (v_pick_t rfl rfl) ?_
              refine s_val rfl (v_move rfl) ?_
              refine s_and rfl rfl rfl ?_ ?_
              · intro g4_33
                refine s_do rfl (d_call Tryz.call9 rfl (zgRestart_spec W0 _ (some ⟨bu, 0, none⟩) (.inr ⟨bu, rfl, inferInstance⟩))) ?_
                rintro _ B_ ⟨rfl, hB_⟩
                obtain rfl := hB_.symm
                refine s_yes rfl rfl ?_
                refine s_val rfl (v_eql rfl rfl) ?_
                refine s_val rfl (v_pick_t rfl rfl) ?_
                refine s_val rfl (v_move rfl) ?_
                refine s_and rfl rfl rfl ?_ ?_
                · intro g4_37
                  refine s_val rfl (v_move rfl) ?_
                  refine s_yes rfl rfl ?_
                  refine s_val rfl (v_move rfl) ?_
                  refine s_yes rfl rfl ?_
                  refine s_do rfl (d_call Tryz.call10 rfl (zgTake_spec W0 _ none (.inl rfl) page)) ?_
                  rintro _ B_ ⟨rfl, hB_⟩
                  obtain rfl := hB_.symm
                  refine s_yes rfl rfl ?_
                  refine s_val rfl (v_eql rfl rfl) ?_
                  refine s_val rfl (v_pick_t rfl rfl) ?_
                  refine s_val rfl (v_move rfl) ?_
                  refine s_and rfl rfl rfl ?_ ?_
                  · intro g4_43
                    refine s_val rfl (v_move rfl) ?_
                    refine s_yes rfl rfl ?_
                    refine s_do rfl (d_call Tryz.call11 rfl (zgGive_spec W0 _ (some ⟨bu, 0, none⟩) (.inr ⟨bu, rfl, inferInstance⟩) page)) ?_
                    rintro _ B_ ⟨rfl, hB_⟩
                    obtain rfl := hB_.symm
                    refine s_yes rfl rfl ?_
                    refine s_val rfl (v_eql rfl rfl) ?_
                    refine s_val rfl (v_pick_t rfl rfl) ?_
                    refine s_val rfl (v_move rfl) ?_
                    refine s_and rfl rfl rfl ?_ ?_
                    · intro g4_48
                      refine s_val rfl (v_move rfl) ?_
                      refine s_yes rfl rfl ?_
                      refine s_do rfl (d_call Tryz.call12 rfl (zgHalted_spec W0 _ none (.inl rfl))) ?_
                      rintro _ B_ ⟨rfl, hB_⟩
                      obtain rfl := hB_.symm
                      refine s_yes rfl rfl ?_
                      refine s_val rfl (v_not rfl) ?_
                      refine s_val rfl (v_pick_t rfl rfl) ?_
                      refine s_val rfl (v_move rfl) ?_
                      refine s_and rfl rfl rfl ?_ ?_
                      · intro g4_53
                        refine s_do rfl (d_call Tryz.call13 rfl (zgClock_spec W0 _ (some ⟨bu, 0, none⟩) (.inr ⟨bu, rfl, inferInstance⟩))) ?_
                        rintro _ B_ ⟨rfl, hB_⟩
                        obtain rfl := hB_.symm
                        refine s_yes rfl rfl ?_
                        refine s_val rfl (v_eql rfl rfl) ?_
                        refine s_val rfl (v_pick_t rfl rfl) ?_
                        refine s_val rfl (v_move rfl) ?_
                        refine s_and rfl rfl rfl ?_ ?_
                        · intro g4_57
                          refine s_val rfl (v_move rfl) ?_
                          refine s_yes rfl rfl ?_
                          refine s_do rfl (d_call Tryz.call14 rfl (zgMode_spec W0 _ none (.inl rfl))) ?_
                          rintro _ B_ ⟨rfl, hB_⟩
                          obtain rfl := hB_.symm
                          refine s_yes rfl rfl ?_
                          refine s_val rfl (v_build Tryz.underlying57 Tryz.zeroValue57 (sized_cons Tryz.sizeOf4 (sized_cons Tryz.sizeOf3 (sized_cons Tryz.sizeOf4 sized_nil))) fil_nil) ?_
                          refine s_yes rfl rfl ?_
                          refine s_val rfl (v_eql_agg Tryz.eqGuardType57 rfl rfl (q_struct Tryz.underlying57 Tryz.stoodInHeld57 (qf_scal rfl Tryz.isAgg4 rfl rfl (q_bool Tryz.underlying4) (qf_scal rfl Tryz.isAgg3 rfl rfl (q_int Tryz.underlying3) (qf_scal rfl Tryz.isAgg4 rfl rfl (q_bool Tryz.underlying4) qf_nil))))) ?_
                          refine s_val rfl (v_pick_t rfl rfl) ?_
                          refine s_val rfl (v_move rfl) ?_
                          refine s_and rfl rfl rfl ?_ ?_
                          · intro g4_63
                            refine s_do rfl (d_call Tryz.call15 rfl (zgPc_spec W0 _ (some ⟨bu, 0, none⟩) (.inr ⟨bu, rfl, inferInstance⟩))) ?_
                            rintro _ B_ ⟨rfl, hB_⟩
                            obtain rfl := hB_.symm
                            refine s_yes rfl rfl ?_
                            refine s_val rfl (v_eql rfl rfl) ?_
                            refine s_val rfl (v_pick_t rfl rfl) ?_
                            refine s_val rfl (v_move rfl) ?_
                            refine s_and rfl rfl rfl ?_ ?_
                            · intro g4_67
                              refine s_val rfl (v_move rfl) ?_
                              refine s_yes rfl rfl ?_
                              refine s_do rfl (d_call Tryz.call16 rfl (zgControl_spec W0 _ none (.inl rfl))) ?_
                              rintro _ B_ ⟨rfl, hB_⟩
                              obtain rfl := hB_.symm
                              refine s_yes rfl rfl ?_
                              refine s_val rfl (v_build0 Tryz.underlying60 Tryz.sizeOf22 Tryz.zeroValue60 rfl) ?_
                              refine s_yes rfl rfl ?_
                              refine s_val rfl (v_eql_agg Tryz.eqGuardType60 rfl rfl (q_arrI (i := Tryz.t22) (ms := [0, 0, 0, 0, 0, 0, 0]) (ns := [0, 0, 0, 0, 0, 0, 0]) Tryz.underlying60 (by kernel_rfl) (by kernel_rfl) Tryz.underlying22 Tryz.isAgg22 rfl rfl rfl rfl)) ?_
                              refine s_val rfl (v_pick_t rfl rfl) ?_
                              refine s_val rfl (v_move rfl) ?_
                              refine s_and rfl rfl rfl ?_ ?_
                              · intro g4_73
                                refine s_val rfl (v_move rfl) ?_
                                refine s_yes rfl rfl ?_
                                refine s_do rfl (d_call Tryz.call17 rfl (zgView_spec W0 _ none (.inl rfl))) ?_
                                rintro _ B_ ⟨rfl, hB_⟩
                                obtain rfl := hB_.symm
                                refine s_yes rfl rfl ?_
                                refine s_val rfl (v_eql_ptr_nil Tryz.underlying43 rfl rfl) ?_
                                refine s_val rfl (v_pick_t rfl rfl) ?_
                                refine s_val rfl (v_move rfl) ?_
                                refine s_and rfl rfl rfl ?_ ?_
                                · intro g4_78
                                  refine s_do rfl (d_call Tryz.call18 rfl (zgMmu_spec W0 _ (some ⟨bu, 0, none⟩) (.inr ⟨bu, rfl, inferInstance⟩))) ?_
                                  rintro _ B_ ⟨rfl, hB_⟩
                                  obtain rfl := hB_.symm
                                  refine s_yes rfl rfl ?_
                                  refine s_val rfl (v_eql_ptr_nil Tryz.underlying26 rfl rfl) ?_
                                  refine s_val rfl (v_pick_t rfl rfl) ?_
                                  refine s_val rfl (v_move rfl) ?_
                                  refine s_and rfl rfl rfl ?_ ?_
                                  · intro g4_82
                                    refine s_val rfl (v_move rfl) ?_
                                    refine s_yes rfl rfl ?_
                                    refine s_do rfl (d_call Tryz.call19 rfl (zgQueue_spec W0 _ none (.inl rfl) 0)) ?_
                                    rintro _ B_ ⟨rfl, hB_⟩
                                    obtain rfl := hB_.symm
                                    refine s_yes rfl rfl ?_
                                    refine s_val rfl (v_eql_ptr_nil Tryz.underlying27 rfl rfl) ?_
                                    refine s_val rfl (v_pick_t rfl rfl) ?_
                                    refine s_val rfl (v_move rfl) ?_
                                    refine s_and rfl rfl rfl ?_ ?_
                                    · intro g4_87
                                      refine s_do rfl (d_call Tryz.call20 rfl (zgVic_spec W0 _ (some ⟨bu, 0, none⟩) (.inr ⟨bu, rfl, inferInstance⟩))) ?_
                                      rintro _ B_ ⟨rfl, hB_⟩
                                      obtain rfl := hB_.symm
                                      refine s_yes rfl rfl ?_
                                      refine s_val rfl (v_eql_ptr_nil Tryz.underlying29 rfl rfl) ?_
                                      refine s_val rfl (v_pick_t rfl rfl) ?_
                                      refine s_val rfl (v_move rfl) ?_
                                      refine s_and rfl rfl rfl ?_ ?_
                                      · intro g4_91
                                        refine s_val rfl (v_move rfl) ?_
                                        refine s_yes rfl rfl ?_
                                        refine s_do rfl (d_call Tryz.call21 rfl (zgTimers_spec W0 _ none (.inl rfl))) ?_
                                        rintro _ B_ ⟨rfl, hB_⟩
                                        obtain rfl := hB_.symm
                                        refine s_yes rfl rfl ?_
                                        refine s_val rfl (v_eql_ptr_nil Tryz.underlying30 rfl rfl) ?_
                                        refine s_val rfl (v_pick_t rfl rfl) ?_
                                        refine s_val rfl (v_move rfl) ?_
                                        refine s_and rfl rfl rfl ?_ ?_
                                        · intro g4_96
                                          refine s_do rfl (d_call Tryz.call22 rfl (zgBox_spec W0 _ (some ⟨bu, 0, none⟩) (.inr ⟨bu, rfl, inferInstance⟩))) ?_
                                          rintro _ B_ ⟨rfl, hB_⟩
                                          obtain rfl := hB_.symm
                                          refine s_yes rfl rfl ?_
                                          refine s_val rfl (v_eql_ptr_nil Tryz.underlying44 rfl rfl) ?_
                                          refine s_val rfl (v_pick_t rfl rfl) ?_
                                          refine s_val rfl (v_move rfl) ?_
                                          refine s_and rfl rfl rfl ?_ ?_
                                          · intro g4_100
                                            refine s_val rfl (v_move rfl) ?_
                                            refine s_yes rfl rfl ?_
                                            refine s_do rfl (d_call Tryz.call23 rfl (zgTrace_spec W0 _ none (.inl rfl))) ?_
                                            rintro _ B_ ⟨rfl, hB_⟩
                                            obtain rfl := hB_.symm
                                            refine s_yes rfl rfl ?_
                                            refine s_val rfl (v_eql_ptr_nil Tryz.underlying45 rfl rfl) ?_
                                            refine s_val rfl (v_pick_t rfl rfl) ?_
                                            refine s_val rfl (v_move rfl) ?_
                                            refine s_and rfl rfl rfl ?_ ?_
                                            · intro g4_105
                                              refine s_do rfl (d_call Tryz.call24 rfl (zgRead_spec W0 _ (some ⟨bu, 0, none⟩) (.inr ⟨bu, rfl, inferInstance⟩) 0)) ?_
                                              rintro _ B_ ⟨rfl, hB_⟩
                                              obtain rfl := hB_.symm
                                              refine s_yes rfl rfl ?_
                                              refine s_val rfl (v_eql rfl rfl) ?_
                                              refine s_val rfl (v_pick_t rfl rfl) ?_
                                              refine s_val rfl (v_move rfl) ?_
                                              refine s_and rfl rfl rfl ?_ ?_
                                              · intro g4_109
                                                refine s_val rfl (v_move rfl) ?_
                                                refine s_yes rfl rfl ?_
                                                refine s_do rfl (d_call Tryz.call25 rfl (zgSet_spec W0 _ (some ⟨bu, 0, none⟩) (.inr ⟨bu, rfl, inferInstance⟩) 1 w)) ?_
                                                rintro _ B_ ⟨rfl, hB_⟩
                                                obtain rfl := hB_.symm
                                                refine s_yes rfl rfl ?_
                                                refine s_val rfl (v_eql rfl rfl) ?_
                                                refine s_val rfl (v_pick_t rfl rfl) ?_
                                                refine s_val rfl (v_move rfl) ?_
                                                refine s_and rfl rfl rfl ?_ ?_
                                                · intro g4_114
                                                  refine s_val rfl (v_move rfl) ?_
                                                  refine s_yes rfl rfl ?_
                                                  refine s_val rfl (v_move rfl) ?_
                                                  refine s_yes rfl rfl ?_
                                                  refine s_do rfl (d_call Tryz.call25 rfl (zgSet_spec W0 _ none (.inl rfl) 1 w)) ?_
                                                  rintro _ B_ ⟨rfl, hB_⟩
                                                  obtain rfl := hB_.symm
                                                  refine s_yes rfl rfl ?_
                                                  refine s_val rfl (v_eql rfl rfl) ?_
                                                  refine s_val rfl (v_pick_t rfl rfl) ?_
                                                  refine s_val rfl (v_move rfl) ?_
                                                  refine s_and rfl rfl rfl ?_ ?_
                                                  · intro g4_120
                                                    refine s_val rfl (v_move rfl) ?_
                                                    refine s_yes rfl rfl ?_
                                                    refine s_val rfl (v_move rfl) ?_
                                                    refine s_yes rfl rfl ?_
                                                    refine s_do rfl (d_call Tryz.call26 rfl (zgReads_spec W0 _ none (.inl rfl) 0 w)) ?_
                                                    rintro _ B_ ⟨rfl, hB_⟩
                                                    obtain rfl := hB_.symm
                                                    refine s_yes rfl rfl ?_
                                                    refine s_val rfl (v_eql rfl rfl) ?_
                                                    refine s_val rfl (v_pick_t rfl rfl) ?_
                                                    refine s_val rfl (v_move rfl) ?_
                                                    refine s_and rfl rfl rfl ?_ ?_
                                                    · intro g4_126
                                                      refine s_do rfl (d_call Tryz.call27 rfl (zgRegisters_spec W0 _ (some ⟨bu, 0, none⟩) (.inr ⟨bu, rfl, inferInstance⟩))) ?_
                                                      rintro _ B_ ⟨rfl, hB_⟩
                                                      obtain rfl := hB_.symm
                                                      refine s_yes rfl rfl ?_
                                                      refine s_val rfl (v_build0 Tryz.underlying71 Tryz.sizeOf22 Tryz.zeroValue71 rfl) ?_
                                                      refine s_yes rfl rfl ?_
                                                      refine s_val rfl (v_eql_agg Tryz.eqGuardType71 rfl rfl (q_arrI (i := Tryz.t22) (ms := [0, 0, 0, 0, 0, 0, 0, 0, 0, 0, 0, 0, 0, 0, 0, 0]) (ns := [0, 0, 0, 0, 0, 0, 0, 0, 0, 0, 0, 0, 0, 0, 0, 0]) Tryz.underlying71 (by kernel_rfl) (by kernel_rfl) Tryz.underlying22 Tryz.isAgg22 rfl rfl rfl rfl)) ?_
                                                      refine s_val rfl (v_pick_t rfl rfl) ?_
                                                      refine s_val rfl (v_assign rfl) ?_
                                                      refine x_nil ?_
                                                      refine n_then ?_
                                                      refine x_ret ?_
                                                      refine x_done (.inl rfl) (.cons (r_tmp rfl) .nil) ?_
                                                      exact ⟨_, ⟨rfl, rfl⟩, inferInstance⟩
                                                    · intro g4_126
                                                      first | exact absurd rfl g4_126 | exact absurd (by simp) g4_126 | exact absurd (by decide) g4_126
                                                  · intro g4_120
                                                    first | exact absurd rfl g4_120 | exact absurd (by simp) g4_120 | exact absurd (by decide) g4_120
                                                · intro g4_114
                                                  first | exact absurd rfl g4_114 | exact absurd (by simp) g4_114 | exact absurd (by decide) g4_114
                                              · intro g4_109
                                                first | exact absurd rfl g4_109 | exact absurd (by simp) g4_109 | exact absurd (by decide) g4_109
                                            · intro g4_105
                                              first | exact absurd rfl g4_105 | exact absurd (by simp) g4_105 | exact absurd (by decide) g4_105
                                          · intro g4_100
                                            first | exact absurd rfl g4_100 | exact absurd (by simp) g4_100 | exact absurd (by decide) g4_100
                                        · intro g4_96
                                          first | exact absurd rfl g4_96 | exact absurd (by simp) g4_96 | exact absurd (by decide) g4_96
                                      · intro g4_91
                                        first | exact absurd rfl g4_91 | exact absurd (by simp) g4_91 | exact absurd (by decide) g4_91
                                    · intro g4_87
                                      first | exact absurd rfl g4_87 | exact absurd (by simp) g4_87 | exact absurd (by decide) g4_87
                                  · intro g4_82
                                    first | exact absurd rfl g4_82 | exact absurd (by simp) g4_82 | exact absurd (by decide) g4_82
                                · intro g4_78
                                  first | exact absurd rfl g4_78 | exact absurd (by simp) g4_78 | exact absurd (by decide) g4_78
                              · intro g4_73
                                first | exact absurd rfl g4_73 | exact absurd (by simp) g4_73 | exact absurd (by decide) g4_73
                            · intro g4_67
                              first | exact absurd rfl g4_67 | exact absurd (by simp) g4_67 | exact absurd (by decide) g4_67
                          · intro g4_63
                            first | exact absurd rfl g4_63 | exact absurd (by simp) g4_63 | exact absurd (by decide) g4_63
                        · intro g4_57
                          first | exact absurd rfl g4_57 | exact absurd (by simp) g4_57 | exact absurd (by decide) g4_57
                      · intro g4_53
                        first | exact absurd rfl g4_53 | exact absurd (by simp) g4_53 | exact absurd (by decide) g4_53
                    · intro g4_48
                      first | exact absurd rfl g4_48 | exact absurd (by simp) g4_48 | exact absurd (by decide) g4_48
                  · intro g4_43
                    first | exact absurd rfl g4_43 | exact absurd (by simp) g4_43 | exact absurd (by decide) g4_43
                · intro g4_37
                  first | exact absurd rfl g4_37 | exact absurd (by simp) g4_37 | exact absurd (by decide) g4_37
              · intro g4_33
                first | exact absurd rfl g4_33 | exact absurd (by simp) g4_33 | exact absurd (by decide) g4_33
            · intro g4_28
              first | exact absurd rfl g4_28 | exact absurd (by simp) g4_28 | exact absurd (by decide) g4_28
          · intro g4_23
            first | exact absurd rfl g4_23 | exact absurd (by simp) g4_23 | exact absurd (by decide) g4_23
        · intro g4_17
          first | exact absurd rfl g4_17 | exact absurd (by simp) g4_17 | exact absurd (by decide) g4_17
      · intro g4_12
        first | exact absurd rfl g4_12 | exact absurd (by simp) g4_12 | exact absurd (by decide) g4_12
    · intro g4_8
      first | exact absurd rfl g4_8 | exact absurd (by simp) g4_8 | exact absurd (by decide) g4_8
  · intro g4_4
    first | exact absurd rfl g4_4 | exact absurd (by simp) g4_4 | exact absurd (by decide) g4_4
end Go.Proofs.YteolepiendmhlaaGreatDoor
