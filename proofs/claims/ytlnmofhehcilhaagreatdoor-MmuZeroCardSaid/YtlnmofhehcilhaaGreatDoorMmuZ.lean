/-
  Layer 20 (mmu): one that nobody made; the walk of MmuZero.
-/
import Derived.Test.YtlnmofhehcilhaaGreatDoorBase
import Derived.Test.YtlnmofhehcilhaaGreatDoorZero
namespace Go.Proofs.YtlnmofhehcilhaaGreatDoor
open Go.RowKit
set_option linter.unusedSimpArgs false
set_option linter.unusedVariables false
set_option maxRecDepth 20000

abbrev zvO : Obj := cob [.pointer none, .pointer none, .int .u32 0] 66
abbrev zmO : Obj := cob [.pointer none, .pointer none, .pointer none] 55
theorem zvNone_spec (W0 : World) (A : List HP) (p : Option Addr) (h : Zo zvO p A) : Spec Tryz.prog W0 38 [.pointer p] A (fun v B => v = .bool true ∧ B = A) := by
  rcases h with rfl | ⟨b, rfl, h⟩
  · skip
    refine spec_body Tryz.func38 Tryz.ntmps38 rfl rfl ?_
    refine x_seq ?_
    refine x_region ?_
    refine s_val rfl (v_assign rfl) ?_
    refine x_nil ?_
    refine n_then ?_
    refine x_seq ?_
    refine x_region ?_
    refine s_val rfl (v_move rfl) ?_
    refine s_val rfl (v_eql_ptr_nil Tryz.underlying25 rfl rfl) ?_
    refine s_val rfl (v_move rfl) ?_
    refine s_or rfl rfl rfl ?_ ?_
    · intro g1_3
      refine s_no rfl rfl rfl rfl ?_
      refine s_no rfl rfl rfl rfl ?_
      refine s_no rfl rfl rfl rfl ?_
      refine s_no rfl rfl rfl rfl ?_
      refine s_val rfl (v_pick_t rfl rfl) ?_
      refine s_val rfl (v_assign rfl) ?_
      refine x_nil ?_
      refine n_then ?_
      refine x_ret ?_
      refine x_done (.inl rfl) (.cons (r_tmp rfl) .nil) ?_
      exact ⟨_, ⟨rfl, rfl⟩, inferInstance⟩
    · intro g1_3
      exact absurd rfl g1_3
  · skip
    refine spec_body Tryz.func38 Tryz.ntmps38 rfl rfl ?_
    refine x_seq ?_
    refine x_region ?_
    refine s_val rfl (v_assign rfl) ?_
    refine x_nil ?_
    refine n_then ?_
    refine x_seq ?_
    refine x_region ?_
    refine s_val rfl (v_move rfl) ?_
    refine s_val rfl (v_eql_ptr_nil Tryz.underlying25 rfl rfl) ?_
    refine s_val rfl (v_move rfl) ?_
    refine s_or rfl rfl rfl ?_ ?_
    · intro g1_3
      cases g1_3
    · intro g1_3
      refine s_val rfl (v_move rfl) ?_
      refine s_yes rfl rfl ?_
      refine s_val rfl (v_nilCheck rfl) ?_
      refine s_yes rfl rfl ?_
      refine s_val rfl (v_fieldAddr rfl Tryz.underlying66 rfl Tryz.sizeOf47 rfl (by first | exact Nat.zero_add _ | rfl)) ?_
      refine s_yes rfl rfl ?_
      refine s_val rfl (v_load Tryz.isAgg47 rfl (zo_cell h rfl)) ?_
      refine s_yes rfl rfl ?_
      refine s_val rfl (v_eql_ptr_nil Tryz.underlying47 rfl rfl) ?_
      refine s_val rfl (v_pick_f rfl rfl) ?_
      refine s_val rfl (v_assign rfl) ?_
      refine x_nil ?_
      refine n_then ?_
      refine x_ret ?_
      refine x_done (.inl rfl) (.cons (r_tmp rfl) .nil) ?_
      exact ⟨_, ⟨rfl, rfl⟩, inferInstance⟩
theorem zvMap_spec (W0 : World) (A : List HP) (p : Option Addr) (h : Zo zvO p A) : Spec Tryz.prog W0 23 [.pointer p] A (fun v B => v = .pointer none ∧ B = A) := by
  refine spec_body Tryz.func23 Tryz.ntmps23 rfl rfl ?_
  refine x_seq ?_
  refine x_region ?_
  refine s_val rfl (v_assign rfl) ?_
  refine x_nil ?_
  refine n_then ?_
  refine x_seq ?_
  refine x_seq ?_
  refine x_region ?_
  refine s_val rfl (v_move rfl) ?_
  refine s_do rfl (d_call Tryz.call38 rfl (zvNone_spec W0 _ p h)) ?_
  rintro _ B_ ⟨rfl, hB_⟩
  obtain rfl := hB_.symm
  refine x_nil ?_
  refine n_then ?_
  refine x_if rfl ?_ ?_
  · intro c1
    refine x_seq ?_
    refine x_region ?_
    refine s_val rfl (v_assign rfl) ?_
    refine x_nil ?_
    refine n_then ?_
    refine x_ret ?_
    refine r_then ?_
    refine x_done (.inl rfl) (.cons (r_tmp rfl) .nil) ?_
    exact ⟨_, ⟨rfl, rfl⟩, inferInstance⟩
  · intro c1
    exact absurd rfl c1
theorem zmNew_spec (W0 : World) (A : List HP) (p : Option Addr) (h : Zo zvO p A) (room : Int) : Spec Tryz.prog W0 15 [.pointer p, .int .i64 room] A (fun v B => v = .tuple #[.pointer none, .int .i64 7] ∧ B = A) := by
  refine spec_body Tryz.func15 Tryz.ntmps15 rfl rfl ?_
  refine x_seq ?_
  refine x_region ?_
  refine s_val rfl (v_assign rfl) ?_
  refine s_val rfl (v_assign rfl) ?_
  refine x_nil ?_
  refine n_then ?_
  refine x_seq ?_
  refine x_seq ?_
  refine x_region ?_
  refine s_val rfl (v_move rfl) ?_
  refine s_do rfl (d_call Tryz.call23 rfl (zvMap_spec W0 _ p h)) ?_
  rintro _ B_ ⟨rfl, hB_⟩
  obtain rfl := hB_.symm
  refine s_val rfl (v_eql_ptr_nil Tryz.underlying64 rfl rfl) ?_
  refine x_nil ?_
  refine n_then ?_
  refine x_if rfl ?_ ?_
  · intro c1
    refine x_seq ?_
    refine x_region ?_
    refine s_val rfl (v_assign rfl) ?_
    refine s_val rfl (v_assign rfl) ?_
    refine x_nil ?_
    refine n_then ?_
    refine x_ret ?_
    refine r_then ?_
    refine x_done (.inl rfl) (.cons (r_tmp rfl) (.cons (r_tmp rfl) .nil)) ?_
    exact ⟨_, ⟨rfl, rfl⟩, inferInstance⟩
  · intro c1
    exact absurd rfl c1
theorem zmNone_spec (W0 : World) (A : List HP) (p : Option Addr) (h : Zo zmO p A) : Spec Tryz.prog W0 34 [.pointer p] A (fun v B => v = .bool true ∧ B = A) := by
  rcases h with rfl | ⟨b, rfl, h⟩
  · skip
    refine spec_body Tryz.func34 Tryz.ntmps34 rfl rfl ?_
    refine x_seq ?_
    refine x_region ?_
    refine s_val rfl (v_assign rfl) ?_
    refine x_nil ?_
    refine n_then ?_
    refine x_seq ?_
    refine x_region ?_
    refine s_val rfl (v_move rfl) ?_
    refine s_val rfl (v_eql_ptr_nil Tryz.underlying24 rfl rfl) ?_
    refine s_val rfl (v_move rfl) ?_
    refine s_or rfl rfl rfl ?_ ?_
    · intro g1_3
      refine s_no rfl rfl rfl rfl ?_
      refine s_no rfl rfl rfl rfl ?_
      refine s_no rfl rfl rfl rfl ?_
      refine s_no rfl rfl rfl rfl ?_
      refine s_val rfl (v_pick_t rfl rfl) ?_
      refine s_val rfl (v_assign rfl) ?_
      refine x_nil ?_
      refine n_then ?_
      refine x_ret ?_
      refine x_done (.inl rfl) (.cons (r_tmp rfl) .nil) ?_
      exact ⟨_, ⟨rfl, rfl⟩, inferInstance⟩
    · intro g1_3
      exact absurd rfl g1_3
  · skip
    refine spec_body Tryz.func34 Tryz.ntmps34 rfl rfl ?_
    refine x_seq ?_
    refine x_region ?_
    refine s_val rfl (v_assign rfl) ?_
    refine x_nil ?_
    refine n_then ?_
    refine x_seq ?_
    refine x_region ?_
    refine s_val rfl (v_move rfl) ?_
    refine s_val rfl (v_eql_ptr_nil Tryz.underlying24 rfl rfl) ?_
    refine s_val rfl (v_move rfl) ?_
    refine s_or rfl rfl rfl ?_ ?_
    · intro g1_3
      cases g1_3
    · intro g1_3
      refine s_val rfl (v_move rfl) ?_
      refine s_yes rfl rfl ?_
      refine s_val rfl (v_nilCheck rfl) ?_
      refine s_yes rfl rfl ?_
      refine s_val rfl (v_fieldAddr rfl Tryz.underlying55 rfl Tryz.sizeOf25 rfl (by first | exact Nat.zero_add _ | rfl)) ?_
      refine s_yes rfl rfl ?_
      refine s_val rfl (v_load Tryz.isAgg25 rfl (zo_cell h rfl)) ?_
      refine s_yes rfl rfl ?_
      refine s_val rfl (v_eql_ptr_nil Tryz.underlying25 rfl rfl) ?_
      refine s_val rfl (v_pick_f rfl rfl) ?_
      refine s_val rfl (v_assign rfl) ?_
      refine x_nil ?_
      refine n_then ?_
      refine x_ret ?_
      refine x_done (.inl rfl) (.cons (r_tmp rfl) .nil) ?_
      exact ⟨_, ⟨rfl, rfl⟩, inferInstance⟩
theorem zmFind_spec (W0 : World) (A : List HP) (p : Option Addr) (h : Zo zmO p A) (on user : Bool) (root : Int) (va : Nat) (kind : Int) : Spec Tryz.prog W0 13 [.pointer p, .agg #[.bool on, .int .i64 root, .bool user], .int .u32 va, .int .i64 kind] A (fun v B => v = .tuple #[.agg #[.int .i64 0, .int .i64 0, .int .i64 0, .bool false], .int .i64 7] ∧ B = A) := by
  refine spec_body Tryz.func13 Tryz.ntmps13 rfl rfl ?_
  refine x_seq ?_
  refine x_region ?_
  refine s_do rfl (d_boxA rfl) ?_
  rintro _ _ ⟨b1, rfl, rfl⟩
  refine s_do rfl (d_allocA Tryz.zeroValue57) ?_
  rintro _ _ ⟨b2, rfl, rfl⟩
  refine s_val rfl (v_assign rfl) ?_
  refine x_nil ?_
  refine n_then ?_
  refine x_seq ?_
  refine x_seq ?_
  refine x_region ?_
  refine s_val rfl (v_move rfl) ?_
  refine s_do rfl (d_call Tryz.call34 rfl (zmNone_spec W0 _ p h.cons.cons)) ?_
  rintro _ B_ ⟨rfl, hB_⟩
  obtain rfl := hB_.symm
  refine x_nil ?_
  refine n_then ?_
  refine x_if rfl ?_ ?_
  · intro c1
    refine x_seq ?_
    refine x_region ?_
    refine s_val rfl (v_build Tryz.underlying57 Tryz.zeroValue57 (sized_cons Tryz.sizeOf3 (sized_cons Tryz.sizeOf3 (sized_cons Tryz.sizeOf3 (sized_cons Tryz.sizeOf4 sized_nil)))) fil_nil) ?_
    refine s_do0 (d_storeAll Tryz.sizeOf57 rfl rfl rfl rfl rfl) ?_
    rintro _ _ rfl
    refine s_val rfl (v_assign rfl) ?_
    refine x_nil ?_
    refine n_then ?_
    refine x_ret ?_
    refine r_then ?_
    refine x_done (.inl rfl) (.cons (r_all Tryz.isAgg57 Tryz.sizeOf57 rfl rfl) (.cons (r_tmp rfl) .nil)) ?_
    exact ⟨_, ⟨rfl, rfl⟩, inferInstance⟩
  · intro c1
    exact absurd rfl c1
theorem zmLoad_spec (W0 : World) (A : List HP) (p : Option Addr) (h : Zo zmO p A) (on user : Bool) (root : Int) (va : Nat) (w kind : Int) : Spec Tryz.prog W0 14 [.pointer p, .agg #[.bool on, .int .i64 root, .bool user], .int .u32 va, .int .i64 w, .int .i64 kind] A (fun v B => v = .tuple #[.int .u32 0, .int .i64 7] ∧ B = A) := by
  refine spec_body Tryz.func14 Tryz.ntmps14 rfl rfl ?_
  refine x_seq ?_
  refine x_region ?_
  refine s_do rfl (d_boxA rfl) ?_
  rintro _ _ ⟨b1, rfl, rfl⟩
  refine s_val rfl (v_assign rfl) ?_
  refine s_val rfl (v_assign rfl) ?_
  refine x_nil ?_
  refine n_then ?_
  refine x_seq ?_
  refine x_block ?_
  refine x_seq ?_
  refine x_region ?_
  refine s_val rfl (v_move rfl) ?_
  refine s_do rfl (d_call Tryz.call34 rfl (zmNone_spec W0 _ p h.cons)) ?_
  rintro _ B_ ⟨rfl, hB_⟩
  obtain rfl := hB_.symm
  refine s_val rfl (v_assign rfl) ?_
  refine x_nil ?_
  refine n_then ?_
  refine x_if rfl ?_ ?_
  · intro c1
    refine x_seq ?_
    refine x_region ?_
    refine s_val rfl (v_assign rfl) ?_
    refine s_val rfl (v_assign rfl) ?_
    refine x_nil ?_
    refine n_then ?_
    refine x_ret ?_
    refine r_block ?_
    refine r_then ?_
    refine x_done (.inl rfl) (.cons (r_tmp rfl) (.cons (r_tmp rfl) .nil)) ?_
    exact ⟨_, ⟨rfl, rfl⟩, inferInstance⟩
  · intro c1
    exact absurd rfl c1
theorem zmSave_spec (W0 : World) (A : List HP) (p : Option Addr) (h : Zo zmO p A) (on user : Bool) (root : Int) (va : Nat) (w : Int) (x : Nat) : Spec Tryz.prog W0 8 [.pointer p, .agg #[.bool on, .int .i64 root, .bool user], .int .u32 va, .int .i64 w, .int .u32 x] A (fun v B => v = .int .i64 7 ∧ B = A) := by
  refine spec_body Tryz.func8 Tryz.ntmps8 rfl rfl ?_
  refine x_seq ?_
  refine x_region ?_
  refine s_do rfl (d_boxA rfl) ?_
  rintro _ _ ⟨b1, rfl, rfl⟩
  refine s_val rfl (v_assign rfl) ?_
  refine x_nil ?_
  refine n_then ?_
  refine x_seq ?_
  refine x_block ?_
  refine x_seq ?_
  refine x_region ?_
  refine s_val rfl (v_move rfl) ?_
  refine s_do rfl (d_call Tryz.call34 rfl (zmNone_spec W0 _ p h.cons)) ?_
  rintro _ B_ ⟨rfl, hB_⟩
  obtain rfl := hB_.symm
  refine s_val rfl (v_assign rfl) ?_
  refine x_nil ?_
  refine n_then ?_
  refine x_if rfl ?_ ?_
  · intro c1
    refine x_seq ?_
    refine x_region ?_
    refine s_val rfl (v_assign rfl) ?_
    refine x_nil ?_
    refine n_then ?_
    refine x_ret ?_
    refine r_block ?_
    refine r_then ?_
    refine x_done (.inl rfl) (.cons (r_tmp rfl) .nil) ?_
    exact ⟨_, ⟨rfl, rfl⟩, inferInstance⟩
  · intro c1
    exact absurd rfl c1
theorem zmGone_spec (W0 : World) (A : List HP) (p : Option Addr) (h : Zo zmO p A) (n : Int) : Spec Tryz.prog W0 16 [.pointer p, .int .i64 n] A (fun v B => v = .int .i64 7 ∧ B = A) := by
  refine spec_body Tryz.func16 Tryz.ntmps16 rfl rfl ?_
  refine x_seq ?_
  refine x_region ?_
  refine s_val rfl (v_assign rfl) ?_
  refine x_nil ?_
  refine n_then ?_
  refine x_seq ?_
  refine x_seq ?_
  refine x_region ?_
  refine s_val rfl (v_move rfl) ?_
  refine s_do rfl (d_call Tryz.call34 rfl (zmNone_spec W0 _ p h)) ?_
  rintro _ B_ ⟨rfl, hB_⟩
  obtain rfl := hB_.symm
  refine x_nil ?_
  refine n_then ?_
  refine x_if rfl ?_ ?_
  · intro c1
    refine x_seq ?_
    refine x_region ?_
    refine s_val rfl (v_assign rfl) ?_
    refine x_nil ?_
    refine n_then ?_
    refine x_ret ?_
    refine r_then ?_
    refine x_done (.inl rfl) (.cons (r_tmp rfl) .nil) ?_
    exact ⟨_, ⟨rfl, rfl⟩, inferInstance⟩
  · intro c1
    exact absurd rfl c1
theorem zmFlush_spec (W0 : World) (A : List HP) (p : Option Addr) (h : Zo zmO p A) : Spec Tryz.prog W0 17 [.pointer p] A (fun v B => v = .int .i64 0 ∧ B = A) := by
  refine spec_body Tryz.func17 Tryz.ntmps17 rfl rfl ?_
  refine x_seq ?_
  refine x_region ?_
  refine s_val rfl (v_assign rfl) ?_
  refine x_nil ?_
  refine n_then ?_
  refine x_seq ?_
  refine x_seq ?_
  refine x_region ?_
  refine s_val rfl (v_move rfl) ?_
  refine s_do rfl (d_call Tryz.call34 rfl (zmNone_spec W0 _ p h)) ?_
  rintro _ B_ ⟨rfl, hB_⟩
  obtain rfl := hB_.symm
  refine x_nil ?_
  refine n_then ?_
  refine x_if rfl ?_ ?_
  · intro c1
    refine x_seq ?_
    refine x_region ?_
    refine s_val rfl (v_assign rfl) ?_
    refine x_nil ?_
    refine n_then ?_
    refine x_ret ?_
    refine r_then ?_
    refine x_done (.inl rfl) (.cons (r_tmp rfl) .nil) ?_
    exact ⟨_, ⟨rfl, rfl⟩, inferInstance⟩
  · intro c1
    exact absurd rfl c1
theorem zmKept_spec (W0 : World) (A : List HP) (p : Option Addr) (h : Zo zmO p A) : Spec Tryz.prog W0 18 [.pointer p] A (fun v B => v = .slice none 0 0 ∧ B = A) := by
  refine spec_body Tryz.func18 Tryz.ntmps18 rfl rfl ?_
  refine x_seq ?_
  refine x_region ?_
  refine s_val rfl (v_assign rfl) ?_
  refine x_nil ?_
  refine n_then ?_
  refine x_seq ?_
  refine x_seq ?_
  refine x_region ?_
  refine s_val rfl (v_move rfl) ?_
  refine s_do rfl (d_call Tryz.call34 rfl (zmNone_spec W0 _ p h)) ?_
  rintro _ B_ ⟨rfl, hB_⟩
  obtain rfl := hB_.symm
  refine x_nil ?_
  refine n_then ?_
  refine x_if rfl ?_ ?_
  · intro c1
    refine x_seq ?_
    refine x_region ?_
    refine s_val rfl (v_assign rfl) ?_
    refine x_nil ?_
    refine n_then ?_
    refine x_ret ?_
    refine r_then ?_
    refine x_done (.inl rfl) (.cons (r_tmp rfl) .nil) ?_
    exact ⟨_, ⟨rfl, rfl⟩, inferInstance⟩
  · intro c1
    exact absurd rfl c1
theorem zmTable_spec (W0 : World) (A : List HP) (p : Option Addr) (h : Zo zmO p A) (n : Int) : Spec Tryz.prog W0 19 [.pointer p, .int .i64 n] A (fun v B => v = .bool false ∧ B = A) := by
  refine spec_body Tryz.func19 Tryz.ntmps19 rfl rfl ?_
  refine x_seq ?_
  refine x_region ?_
  refine s_val rfl (v_assign rfl) ?_
  refine x_nil ?_
  refine n_then ?_
  refine x_seq ?_
  refine x_seq ?_
  refine x_region ?_
  refine s_val rfl (v_move rfl) ?_
  refine s_do rfl (d_call Tryz.call34 rfl (zmNone_spec W0 _ p h)) ?_
  rintro _ B_ ⟨rfl, hB_⟩
  obtain rfl := hB_.symm
  refine x_nil ?_
  refine n_then ?_
  refine x_if rfl ?_ ?_
  · intro c1
    refine x_seq ?_
    refine x_region ?_
    refine s_val rfl (v_assign rfl) ?_
    refine x_nil ?_
    refine n_then ?_
    refine x_ret ?_
    refine r_then ?_
    refine x_done (.inl rfl) (.cons (r_tmp rfl) .nil) ?_
    exact ⟨_, ⟨rfl, rfl⟩, inferInstance⟩
  · intro c1
    exact absurd rfl c1
theorem MmuZero_walk (W0 : World) (on user : Bool) (root : Int) (va : Nat) (width kind : Int) (w : Nat) : Spec Tryz.prog W0 4 [.agg #[.bool on, .int .i64 root, .bool user], .int .u32 va, .int .i64 width, .int .i64 kind, .int .u32 w] [] (fun v B => v = .bool true ∧ B = []) := by
  refine spec_body Tryz.func4 Tryz.ntmps4 rfl rfl ?_
  refine x_seq ?_
  refine x_region ?_
  refine s_do rfl (d_boxA rfl) ?_
  rintro _ _ ⟨b1, rfl, rfl⟩
  refine s_val rfl (v_assign rfl) ?_
  refine x_nil ?_
  refine n_then ?_
  refine x_seq ?_
  refine x_region ?_
  refine s_val rfl (v_assign rfl) ?_
  refine x_nil ?_
  refine n_then ?_
  refine x_seq ?_
  refine x_region ?_
  refine s_do rfl (d_allocA Tryz.zeroValue55) ?_
  rintro _ _ ⟨bu, rfl, rfl⟩
  refine x_nil ?_
  refine n_then ?_
  refine x_seq ?_
  refine x_region ?_
  refine s_val rfl (v_move rfl) ?_
  refine s_val rfl (v_loadAll Tryz.isAgg30 Tryz.sizeOf30 rfl rfl) ?_
  refine s_val rfl (v_move rfl) ?_
  refine s_val rfl (v_move rfl) ?_
  refine s_do rfl (d_call Tryz.call13 rfl (zmFind_spec W0 _ none (.inl rfl) on user root va kind)) ?_
  rintro _ B_ ⟨rfl, hB_⟩
  obtain rfl := hB_.symm
  refine s_val rfl (v_move rfl) ?_
  refine s_val rfl (v_extract rfl rfl) ?_
  refine s_val rfl (v_extract rfl rfl) ?_
  refine s_do rfl (d_allocA Tryz.zeroValue57) ?_
  rintro _ _ ⟨b3, rfl, rfl⟩
  refine s_do0 (d_storeAll Tryz.sizeOf57 rfl rfl rfl rfl rfl) ?_
  rintro _ _ rfl
  refine s_val rfl (v_assign rfl) ?_
  refine x_nil ?_
  refine n_then ?_
  refine x_seq ?_
  refine x_region ?_
  refine s_val rfl (v_loadAll Tryz.isAgg30 Tryz.sizeOf30 rfl rfl) ?_
  refine s_val rfl (v_move rfl) ?_
  refine s_val rfl (v_move rfl) ?_
  refine s_val rfl (v_move rfl) ?_
  refine s_do rfl (d_call Tryz.call14 rfl (zmLoad_spec W0 _ (some ⟨bu, 0, none⟩) (.inr ⟨bu, rfl, inferInstance⟩) on user root va width kind)) ?_
  rintro _ B_ ⟨rfl, hB_⟩
  obtain rfl := hB_.symm
  refine s_val rfl (v_move rfl) ?_
  refine s_val rfl (v_extract rfl rfl) ?_
  refine s_val rfl (v_extract rfl rfl) ?_
  refine s_val rfl (v_assign rfl) ?_
  refine s_val rfl (v_assign rfl) ?_
  refine x_nil ?_
  refine n_then ?_
  refine x_seq ?_
  refine x_region ?_
  refine s_do rfl (d_call Tryz.call15 rfl (zmNew_spec W0 _ none (.inl rfl) 1)) ?_
  rintro _ B_ ⟨rfl, hB_⟩
  obtain rfl := hB_.symm
  refine s_val rfl (v_move rfl) ?_
  refine s_val rfl (v_extract rfl rfl) ?_
  refine s_val rfl (v_extract rfl rfl) ?_
  refine s_val rfl (v_assign rfl) ?_
  refine s_val rfl (v_assign rfl) ?_
  refine x_nil ?_
  refine n_then ?_
  refine x_seq ?_
  refine x_region ?_
  refine s_do rfl (d_allocA Tryz.zeroValue66) ?_
  rintro _ _ ⟨bz, rfl, rfl⟩
  refine x_nil ?_
  refine n_then ?_
  refine x_seq ?_
  refine x_region ?_
  refine s_do rfl (d_call Tryz.call15 rfl (zmNew_spec W0 _ (some ⟨bz, 0, none⟩) (.inr ⟨bz, rfl, inferInstance⟩) 1)) ?_
  rintro _ B_ ⟨rfl, hB_⟩
  obtain rfl := hB_.symm
  refine s_val rfl (v_move rfl) ?_
  refine s_val rfl (v_extract rfl rfl) ?_
  refine s_val rfl (v_extract rfl rfl) ?_
  refine s_val rfl (v_assign rfl) ?_
  refine s_val rfl (v_assign rfl) ?_
  refine x_nil ?_
  refine n_then ?_
  refine x_seq ?_
  refine x_region ?_
  refine s_val rfl (v_loadAll Tryz.isAgg57 Tryz.sizeOf57 rfl rfl) ?_
  refine s_val rfl (v_build Tryz.underlying57 Tryz.zeroValue57 (sized_cons Tryz.sizeOf3 (sized_cons Tryz.sizeOf3 (sized_cons Tryz.sizeOf3 (sized_cons Tryz.sizeOf4 sized_nil)))) fil_nil) ?_
  refine s_val rfl (v_eql_agg Tryz.eqGuardType57 rfl rfl (q_struct Tryz.underlying57 Tryz.stoodInHeld57 (qf_scal rfl Tryz.isAgg3 rfl rfl (q_int Tryz.underlying3) (qf_scal rfl Tryz.isAgg3 rfl rfl (q_int Tryz.underlying3) (qf_scal rfl Tryz.isAgg3 rfl rfl (q_int Tryz.underlying3) (qf_scal rfl Tryz.isAgg4 rfl rfl (q_bool Tryz.underlying4) qf_nil)))))) ?_
  refine s_val rfl (v_move rfl) ?_
  refine s_and rfl rfl rfl ?_ ?_
  · intro g8_4
    refine s_val rfl (v_move rfl) ?_
    refine s_yes rfl rfl ?_
    refine s_val rfl (v_eql rfl rfl) ?_
    refine s_val rfl (v_pick_t rfl rfl) ?_
    refine s_val rfl (v_move rfl) ?_
    refine s_and rfl rfl rfl ?_ ?_
    · intro g8_8
      refine s_val rfl (v_move rfl) ?_
      refine s_yes rfl rfl ?_
      refine s_val rfl (v_eql rfl rfl) ?_
      refine s_val rfl (v_pick_t rfl rfl) ?_
      refine s_val rfl (v_move rfl) ?_
      refine s_and rfl rfl rfl ?_ ?_
      · intro g8_12
        refine s_val rfl (v_move rfl) ?_
        refine s_yes rfl rfl ?_
        refine s_val rfl (v_move rfl) ?_
        refine s_yes rfl rfl ?_
        refine s_val rfl (v_eql rfl rfl) ?_
        refine s_val rfl (v_pick_t rfl rfl) ?_
        refine s_val rfl (v_move rfl) ?_
        refine s_and rfl rfl rfl ?_ ?_
        · intro g8_17
          refine s_val rfl (v_loadAll Tryz.isAgg30 Tryz.sizeOf30 rfl rfl) ?_
          refine s_yes rfl rfl ?_
          refine s_val rfl (v_move rfl) ?_
          refine s_yes rfl rfl ?_
          refine s_val rfl (v_move rfl) ?_
          refine s_yes rfl rfl ?_
          refine s_val rfl (v_move rfl) ?_
          refine s_yes rfl rfl ?_
          refine s_do rfl (d_call Tryz.call8 rfl (zmSave_spec W0 _ (some ⟨bu, 0, none⟩) (.inr ⟨bu, rfl, inferInstance⟩) on user root va width w)) ?_
          rintro _ B_ ⟨rfl, hB_⟩
          obtain rfl := hB_.symm
          refine s_yes rfl rfl ?_
          refine s_val rfl (v_move rfl) ?_
          refine s_yes rfl rfl ?_
          refine s_val rfl (v_eql rfl rfl) ?_
          refine s_val rfl (v_pick_t rfl rfl) ?_
          refine s_val rfl (v_move rfl) ?_
          refine s_and rfl rfl rfl ?_ ?_
          · intro g8_26
            refine s_val rfl (v_move rfl) ?_
            refine s_yes rfl rfl ?_
            refine s_val rfl (v_loadAll Tryz.isAgg30 Tryz.sizeOf30 rfl rfl) ?_
            refine s_yes rfl rfl ?_
            refine s_val rfl (v_move rfl) ?_
            refine s_yes rfl rfl ?_
            refine s_val rfl (v_move rfl) ?_
            refine s_yes rfl rfl ?_
            refine s_val rfl (v_move rfl) ?_
            refine s_yes rfl rfl ?_
            refine s_do rfl (d_call Tryz.call8 rfl (zmSave_spec W0 _ none (.inl rfl) on user root va width w)) ?_
            rintro _ B_ ⟨rfl, hB_⟩
            obtain rfl := hB_.symm
            refine s_yes rfl rfl ?_
            refine s_val rfl (v_move rfl) ?_
            refine s_yes rfl rfl ?_
            refine s_val rfl (v_eql rfl rfl) ?_
            refine s_val rfl (v_pick_t rfl rfl) ?_
            refine s_val rfl (v_move rfl) ?_
            refine s_and rfl rfl rfl ?_ ?_
            · intro g8_36
              refine s_val rfl (v_move rfl) ?_
              refine s_yes rfl rfl ?_
              refine s_val rfl (v_eql_ptr_nil Tryz.underlying24 rfl rfl) ?_
              refine s_val rfl (v_pick_t rfl rfl) ?_
              refine s_val rfl (v_move rfl) ?_
              refine s_and rfl rfl rfl ?_ ?_
              · intro g8_40
                refine s_val rfl (v_move rfl) ?_
                refine s_yes rfl rfl ?_
                refine s_val rfl (v_eql rfl rfl) ?_
                refine s_val rfl (v_pick_t rfl rfl) ?_
                refine s_val rfl (v_move rfl) ?_
                refine s_and rfl rfl rfl ?_ ?_
                · intro g8_44
                  refine s_val rfl (v_move rfl) ?_
                  refine s_yes rfl rfl ?_
                  refine s_val rfl (v_eql_ptr_nil Tryz.underlying24 rfl rfl) ?_
                  refine s_val rfl (v_pick_t rfl rfl) ?_
                  refine s_val rfl (v_move rfl) ?_
                  refine s_and rfl rfl rfl ?_ ?_
                  · intro g8_48
                    refine s_val rfl (v_move rfl) ?_
                    refine s_yes rfl rfl ?_
                    refine s_val rfl (v_move rfl) ?_
                    refine s_yes rfl rfl ?_
                    refine s_val rfl (v_eql rfl rfl) ?_
                    refine s_val rfl (v_pick_t rfl rfl) ?_
                    refine s_val rfl (v_move rfl) ?_
                    refine s_and rfl rfl rfl ?_ ?_
                    · intro g8_53
                      refine s_val rfl (v_move rfl) ?_
                      refine s_yes rfl rfl ?_
                      refine s_do rfl (d_call Tryz.call16 rfl (zmGone_spec W0 _ none (.inl rfl) 1)) ?_
                      rintro _ B_ ⟨rfl, hB_⟩
                      obtain rfl := hB_.symm
                      refine s_yes rfl rfl ?_
                      refine s_val rfl (v_move rfl) ?_
                      refine s_yes rfl rfl ?_
                      refine s_val rfl (v_eql rfl rfl) ?_
                      refine s_val rfl (v_pick_t rfl rfl) ?_
                      refine s_val rfl (v_move rfl) ?_
                      refine s_and rfl rfl rfl ?_ ?_
                      · intro g8_59
                        refine s_do rfl (d_call Tryz.call16 rfl (zmGone_spec W0 _ (some ⟨bu, 0, none⟩) (.inr ⟨bu, rfl, inferInstance⟩) 1)) ?_
                        rintro _ B_ ⟨rfl, hB_⟩
                        obtain rfl := hB_.symm
                        refine s_yes rfl rfl ?_
                        refine s_val rfl (v_move rfl) ?_
                        refine s_yes rfl rfl ?_
                        refine s_val rfl (v_eql rfl rfl) ?_
                        refine s_val rfl (v_pick_t rfl rfl) ?_
                        refine s_val rfl (v_move rfl) ?_
                        refine s_and rfl rfl rfl ?_ ?_
                        · intro g8_64
                          refine s_val rfl (v_move rfl) ?_
                          refine s_yes rfl rfl ?_
                          refine s_do rfl (d_call Tryz.call17 rfl (zmFlush_spec W0 _ none (.inl rfl))) ?_
                          rintro _ B_ ⟨rfl, hB_⟩
                          obtain rfl := hB_.symm
                          refine s_yes rfl rfl ?_
                          refine s_do rfl (d_call Tryz.call17 rfl (zmFlush_spec W0 _ (some ⟨bu, 0, none⟩) (.inr ⟨bu, rfl, inferInstance⟩))) ?_
                          rintro _ B_ ⟨rfl, hB_⟩
                          obtain rfl := hB_.symm
                          refine s_yes rfl rfl ?_
                          refine s_val rfl (v_add rfl rfl (by first | exact w64 (by omega) | rfl)) ?_
                          refine s_yes rfl rfl ?_
                          refine s_val rfl (v_eql rfl rfl) ?_
                          refine s_val rfl (v_pick_t rfl rfl) ?_
                          refine s_val rfl (v_move rfl) ?_
                          refine s_and rfl rfl rfl ?_ ?_
                          · intro g8_71
                            refine s_val rfl (v_move rfl) ?_
                            refine s_yes rfl rfl ?_
                            refine s_do rfl (d_call Tryz.call18 rfl (zmKept_spec W0 _ none (.inl rfl))) ?_
                            rintro _ B_ ⟨rfl, hB_⟩
                            obtain rfl := hB_.symm
                            refine s_yes rfl rfl ?_
                            refine s_val rfl (v_len_slice Tryz.underlying69 rfl) ?_
                            refine s_yes rfl rfl ?_
                            refine s_do rfl (d_call Tryz.call18 rfl (zmKept_spec W0 _ (some ⟨bu, 0, none⟩) (.inr ⟨bu, rfl, inferInstance⟩))) ?_
                            rintro _ B_ ⟨rfl, hB_⟩
                            obtain rfl := hB_.symm
                            refine s_yes rfl rfl ?_
                            refine s_val rfl (v_len_slice Tryz.underlying69 rfl) ?_
                            refine s_yes rfl rfl ?_
                            refine s_val rfl (v_add rfl rfl (by first | exact w64 (by omega) | rfl)) ?_
                            refine s_yes rfl rfl ?_
                            refine s_val rfl (v_eql rfl rfl) ?_
                            refine s_val rfl (v_pick_t rfl rfl) ?_
                            refine s_val rfl (v_move rfl) ?_
                            refine s_and rfl rfl rfl ?_ ?_
                            · intro g8_80
                              refine s_val rfl (v_move rfl) ?_
                              refine s_yes rfl rfl ?_
                              refine s_do rfl (d_call Tryz.call19 rfl (zmTable_spec W0 _ none (.inl rfl) 1)) ?_
                              rintro _ B_ ⟨rfl, hB_⟩
                              obtain rfl := hB_.symm
                              refine s_yes rfl rfl ?_
                              refine s_val rfl (v_not rfl) ?_
                              refine s_val rfl (v_pick_t rfl rfl) ?_
                              refine s_val rfl (v_move rfl) ?_
                              refine s_and rfl rfl rfl ?_ ?_
                              · intro g8_85
                                refine s_do rfl (d_call Tryz.call19 rfl (zmTable_spec W0 _ (some ⟨bu, 0, none⟩) (.inr ⟨bu, rfl, inferInstance⟩) 1)) ?_
                                rintro _ B_ ⟨rfl, hB_⟩
                                obtain rfl := hB_.symm
                                refine s_yes rfl rfl ?_
                                refine s_val rfl (v_not rfl) ?_
                                refine s_val rfl (v_pick_t rfl rfl) ?_
                                refine s_val rfl (v_assign rfl) ?_
                                refine x_nil ?_
                                refine n_then ?_
                                refine x_ret ?_
                                refine x_done (.inl rfl) (.cons (r_tmp rfl) .nil) ?_
                                exact ⟨_, ⟨rfl, rfl⟩, inferInstance⟩
                              · intro g8_85
                                first | exact absurd rfl g8_85 | exact absurd (by simp) g8_85 | exact absurd (by decide) g8_85
                            · intro g8_80
                              first | exact absurd rfl g8_80 | exact absurd (by simp) g8_80 | exact absurd (by decide) g8_80
                          · intro g8_71
                            first | exact absurd rfl g8_71 | exact absurd (by simp) g8_71 | exact absurd (by decide) g8_71
                        · intro g8_64
                          first | exact absurd rfl g8_64 | exact absurd (by simp) g8_64 | exact absurd (by decide) g8_64
                      · intro g8_59
                        first | exact absurd rfl g8_59 | exact absurd (by simp) g8_59 | exact absurd (by decide) g8_59
                    · intro g8_53
                      first | exact absurd rfl g8_53 | exact absurd (by simp) g8_53 | exact absurd (by decide) g8_53
                  · intro g8_48
                    first | exact absurd rfl g8_48 | exact absurd (by simp) g8_48 | exact absurd (by decide) g8_48
                · intro g8_44
                  first | exact absurd rfl g8_44 | exact absurd (by simp) g8_44 | exact absurd (by decide) g8_44
              · intro g8_40
                first | exact absurd rfl g8_40 | exact absurd (by simp) g8_40 | exact absurd (by decide) g8_40
            · intro g8_36
              first | exact absurd rfl g8_36 | exact absurd (by simp) g8_36 | exact absurd (by decide) g8_36
          · intro g8_26
            first | exact absurd rfl g8_26 | exact absurd (by simp) g8_26 | exact absurd (by decide) g8_26
        · intro g8_17
          first | exact absurd rfl g8_17 | exact absurd (by simp) g8_17 | exact absurd (by decide) g8_17
      · intro g8_12
        first | exact absurd rfl g8_12 | exact absurd (by simp) g8_12 | exact absurd (by decide) g8_12
    · intro g8_8
      first | exact absurd rfl g8_8 | exact absurd (by simp) g8_8 | exact absurd (by decide) g8_8
  · intro g8_4
    first | exact absurd rfl g8_4 | exact absurd (by simp) g8_4 | exact absurd (by decide) g8_4
end Go.Proofs.YtlnmofhehcilhaaGreatDoor
