/-
  Layer 16 (view): a memory that nobody made; the walk of ViewZero.
-/
import Derived.Test.YtpmacnfjafpdcaaViewLawC
namespace Go.Proofs.Ytpmacnfjafpdcaa
open Go.RowKit
set_option linter.unusedSimpArgs false
set_option linter.unusedVariables false
set_option maxRecDepth 20000

abbrev vzO : Obj := cob [.pointer none, .pointer none, .int .u32 0] 68
/-- Nil, or as nobody made it. -/
def Zv (o : Obj) (p : Option Addr) (A : List HP) : Prop := p = none ∨ ∃ b, p = some ⟨b, 0, none⟩ ∧ Ent A [pt b o]
theorem Zv.cons {o : Obj} {p : Option Addr} {A : List HP} {c : HP} (h : Zv o p A) : Zv o p (c :: A) := by
  rcases h with h | ⟨b, h1, h2⟩
  · exact .inl h
  · exact .inr ⟨b, h1, Ent.drop.trans h2⟩
theorem cell_ent {W0 : World} {A : List HP} {b off ty : Nat} {l : List Value} {v : Value} (h : Ent A [pt b (cob l ty)]) (hv : l[off]? = some v) : Cell (OwnP W0 A) b off v :=
  Cell.weak (B := [pt b (cob l ty)]) (cell_own (R := []) hv)
theorem vzNone_spec (W0 : World) (A : List HP) (p : Option Addr) (h : Zv vzO p A) : Spec Try.prog W0 77 [.pointer p] A (fun v B => v = .bool true ∧ B = A) := by
  rcases h with rfl | ⟨b, rfl, h⟩
  · skip
    refine spec_body Try.func77 Try.ntmps77 rfl rfl ?_
    refine x_seq ?_
    refine x_region ?_
    refine s_val rfl (v_assign rfl) ?_
    refine x_nil ?_
    refine n_then ?_
    refine x_seq ?_
    refine x_region ?_
    refine s_val rfl (v_move rfl) ?_
    refine s_val rfl (v_eql_ptr_nil Try.underlying58 rfl rfl) ?_
    refine s_val rfl (v_move rfl) ?_
    refine s_or rfl rfl rfl ?_ ?_
    · intro g1_3
      refine s_no rfl rfl rfl rfl ?_
      refine s_no rfl rfl rfl rfl ?_
      refine s_no rfl rfl rfl rfl ?_
      refine s_no rfl rfl rfl rfl ?_
      refine s_val rfl (v_pick_t rfl rfl) ?_
      refine s_val rfl (v_assign rfl) ?_
      refine x_nil ?_
      refine n_then ?_
      refine x_ret ?_
      refine x_done (.inl rfl) (.cons (r_tmp rfl) .nil) ?_
      exact ⟨_, ⟨rfl, rfl⟩, inferInstance⟩
    · intro g1_3
      exact absurd rfl g1_3
  · skip
    refine spec_body Try.func77 Try.ntmps77 rfl rfl ?_
    refine x_seq ?_
    refine x_region ?_
    refine s_val rfl (v_assign rfl) ?_
    refine x_nil ?_
    refine n_then ?_
    refine x_seq ?_
    refine x_region ?_
    refine s_val rfl (v_move rfl) ?_
    refine s_val rfl (v_eql_ptr_nil Try.underlying58 rfl rfl) ?_
    refine s_val rfl (v_move rfl) ?_
    refine s_or rfl rfl rfl ?_ ?_
    · intro g1_3
      cases g1_3
    · intro g1_3
      refine s_val rfl (v_move rfl) ?_
      refine s_yes rfl rfl ?_
      refine s_val rfl (v_nilCheck rfl) ?_
      refine s_yes rfl rfl ?_
      refine s_val rfl (v_fieldAddr rfl Try.underlying68 rfl Try.sizeOf65 rfl (by first | exact Nat.zero_add _ | rfl)) ?_
      refine s_yes rfl rfl ?_
      refine s_val rfl (v_load Try.isAgg65 rfl (cell_ent h rfl)) ?_
      refine s_yes rfl rfl ?_
      refine s_val rfl (v_eql_ptr_nil Try.underlying65 rfl rfl) ?_
      refine s_val rfl (v_pick_f rfl rfl) ?_
      refine s_val rfl (v_assign rfl) ?_
      refine x_nil ?_
      refine n_then ?_
      refine x_ret ?_
      refine x_done (.inl rfl) (.cons (r_tmp rfl) .nil) ?_
      exact ⟨_, ⟨rfl, rfl⟩, inferInstance⟩
theorem vzFind_spec (W0 : World) (A : List HP) (p : Option Addr) (h : Zv vzO p A) (pa : Nat) (w kind : Int) : Spec Try.prog W0 35 [.pointer p, .int .u32 pa, .int .i64 w, .int .i64 kind] A
    (fun v B => v = .tuple #[.agg #[.int .i64 0, .int .i64 0, .int .i64 0, .bool false], .int .i64 7] ∧ B = A) := by
  refine spec_body Try.func35 Try.ntmps35 rfl rfl ?_
  refine x_seq ?_
  refine x_region ?_
  refine s_do rfl (d_allocA Try.zeroValue70) ?_
  rintro _ _ ⟨b1, rfl, rfl⟩
  refine s_val rfl (v_assign rfl) ?_
  refine x_nil ?_
  refine n_then ?_
  refine x_seq ?_
  refine x_block ?_
  refine x_seq ?_
  refine x_region ?_
  refine s_val rfl (v_move rfl) ?_
  refine s_do rfl (d_call Try.call77 rfl (vzNone_spec W0 _ p h.cons)) ?_
  rintro _ B_ ⟨rfl, hB_⟩
  obtain rfl := hB_.symm
  refine s_val rfl (v_assign rfl) ?_
  refine x_nil ?_
  refine n_then ?_
  refine x_if rfl ?_ ?_
  · intro c1
    refine x_seq ?_
    refine x_region ?_
    refine s_val rfl (v_build Try.underlying70 Try.zeroValue70 (sized_cons Try.sizeOf3 (sized_cons Try.sizeOf3 (sized_cons Try.sizeOf3 (sized_cons Try.sizeOf4 sized_nil)))) fil_nil) ?_
    refine s_do0 (d_storeAll Try.sizeOf70 rfl rfl rfl rfl rfl) ?_
    rintro _ _ rfl
    refine s_val rfl (v_assign rfl) ?_
    refine x_nil ?_
    refine n_then ?_
    refine x_ret ?_
    refine r_block ?_
    refine r_then ?_
    refine x_done (.inl rfl) (.cons (r_all Try.isAgg70 Try.sizeOf70 rfl rfl) (.cons (r_tmp rfl) .nil)) ?_
    exact ⟨_, ⟨rfl, rfl⟩, inferInstance⟩
  · intro c1
    exact absurd rfl c1
theorem vzLoad_spec (W0 : World) (A : List HP) (p : Option Addr) (h : Zv vzO p A) (pa : Nat) (w : Int) : Spec Try.prog W0 36 [.pointer p, .int .u32 pa, .int .i64 w] A
    (fun v B => v = .tuple #[.int .u32 0, .int .i64 7] ∧ B = A) := by
  refine spec_body Try.func36 Try.ntmps36 rfl rfl ?_
  refine x_seq ?_
  refine x_region ?_
  refine s_val rfl (v_assign rfl) ?_
  refine s_val rfl (v_assign rfl) ?_
  refine x_nil ?_
  refine n_then ?_
  refine x_seq ?_
  refine x_region ?_
  refine s_val rfl (v_move rfl) ?_
  refine s_val rfl (v_move rfl) ?_
  refine s_val rfl (v_move rfl) ?_
  refine s_do rfl (d_call Try.call35 rfl (vzFind_spec W0 _ p h pa w 1)) ?_
  rintro _ B_ ⟨rfl, hB_⟩
  obtain rfl := hB_.symm
  refine s_val rfl (v_move rfl) ?_
  refine s_val rfl (v_extract rfl rfl) ?_
  refine s_val rfl (v_extract rfl rfl) ?_
  refine s_do rfl (d_allocA Try.zeroValue70) ?_
  rintro _ _ ⟨b1, rfl, rfl⟩
  refine s_do0 (d_storeAll Try.sizeOf70 rfl rfl rfl rfl rfl) ?_
  rintro _ _ rfl
  refine s_val rfl (v_assign rfl) ?_
  refine x_nil ?_
  refine n_then ?_
  refine x_seq ?_
  refine x_seq ?_
  refine x_region ?_
  refine s_val rfl (v_move rfl) ?_
  refine s_val rfl (v_neq rfl rfl) ?_
  refine x_nil ?_
  refine n_then ?_
  refine x_if rfl ?_ ?_
  · intro c2
    refine x_seq ?_
    refine x_region ?_
    refine s_val rfl (v_move rfl) ?_
    refine s_val rfl (v_assign rfl) ?_
    refine s_val rfl (v_assign rfl) ?_
    refine x_nil ?_
    refine n_then ?_
    refine x_ret ?_
    refine r_then ?_
    refine x_done (.inl rfl) (.cons (r_tmp rfl) (.cons (r_tmp rfl) .nil)) ?_
    exact ⟨_, ⟨rfl, rfl⟩, inferInstance⟩
  · intro c2
    exact absurd c2 (by decide)
theorem vzSave_spec (W0 : World) (A : List HP) (p : Option Addr) (h : Zv vzO p A) (pa : Nat) (w : Int) (x : Nat) : Spec Try.prog W0 41 [.pointer p, .int .u32 pa, .int .i64 w, .int .u32 x] A
    (fun v B => v = .int .i64 7 ∧ B = A) := by
  refine spec_body Try.func41 Try.ntmps41 rfl rfl ?_
  refine x_seq ?_
  refine x_region ?_
  refine s_val rfl (v_assign rfl) ?_
  refine x_nil ?_
  refine n_then ?_
  refine x_seq ?_
  refine x_region ?_
  refine s_val rfl (v_move rfl) ?_
  refine s_val rfl (v_move rfl) ?_
  refine s_val rfl (v_move rfl) ?_
  refine s_do rfl (d_call Try.call35 rfl (vzFind_spec W0 _ p h pa w 2)) ?_
  rintro _ B_ ⟨rfl, hB_⟩
  obtain rfl := hB_.symm
  refine s_val rfl (v_move rfl) ?_
  refine s_val rfl (v_extract rfl rfl) ?_
  refine s_val rfl (v_extract rfl rfl) ?_
  refine s_do rfl (d_allocA Try.zeroValue70) ?_
  rintro _ _ ⟨b1, rfl, rfl⟩
  refine s_do0 (d_storeAll Try.sizeOf70 rfl rfl rfl rfl rfl) ?_
  rintro _ _ rfl
  refine s_val rfl (v_assign rfl) ?_
  refine x_nil ?_
  refine n_then ?_
  refine x_seq ?_
  refine x_seq ?_
  refine x_region ?_
  refine s_val rfl (v_move rfl) ?_
  refine s_val rfl (v_neq rfl rfl) ?_
  refine x_nil ?_
  refine n_then ?_
  refine x_if rfl ?_ ?_
  · intro c2
    refine x_seq ?_
    refine x_region ?_
    refine s_val rfl (v_move rfl) ?_
    refine s_val rfl (v_assign rfl) ?_
    refine x_nil ?_
    refine n_then ?_
    refine x_ret ?_
    refine r_then ?_
    refine x_done (.inl rfl) (.cons (r_tmp rfl) .nil) ?_
    exact ⟨_, ⟨rfl, rfl⟩, inferInstance⟩
  · intro c2
    exact absurd c2 (by decide)
theorem vzOwn_spec (W0 : World) (A : List HP) (p : Option Addr) (h : Zv vzO p A) (pa : Nat) (n : Int) : Spec Try.prog W0 33 [.pointer p, .int .u32 pa, .int .i64 n] A
    (fun v B => v = .bool false ∧ B = A) := by
  refine spec_body Try.func33 Try.ntmps33 rfl rfl ?_
  refine x_seq ?_
  refine x_region ?_
  refine s_do rfl (d_box rfl rfl) ?_
  rintro _ _ ⟨b1, rfl, rfl⟩
  refine s_do rfl (d_alloc Try.zeroValue4 rfl) ?_
  rintro _ _ ⟨b2, rfl, rfl⟩
  refine x_nil ?_
  refine n_then ?_
  refine x_seq ?_
  refine x_seq ?_
  refine x_region ?_
  refine s_val rfl (v_load Try.isAgg58 rfl (cell_own rfl)) ?_
  refine s_do rfl (d_call Try.call77 rfl (vzNone_spec W0 _ p h.cons.cons)) ?_
  rintro _ B_ ⟨rfl, hB_⟩
  obtain rfl := hB_.symm
  refine s_val rfl (v_move rfl) ?_
  refine s_or rfl rfl rfl ?_ ?_
  · intro g1_3
    refine s_no rfl rfl rfl rfl ?_
    refine s_val rfl (v_pick_t rfl rfl) ?_
    refine s_val rfl (v_move rfl) ?_
    refine s_no rfl rfl rfl rfl ?_
    refine s_no rfl rfl rfl rfl ?_
    refine s_val rfl (v_pick_t rfl rfl) ?_
    refine s_val rfl (v_move rfl) ?_
    refine s_no rfl rfl rfl rfl ?_
    refine s_no rfl rfl rfl rfl ?_
    refine s_no rfl rfl rfl rfl ?_
    refine s_no rfl rfl rfl rfl ?_
    refine s_no rfl rfl rfl rfl ?_
    refine s_val rfl (v_pick_t rfl rfl) ?_
    refine x_nil ?_
    refine n_then ?_
    refine x_ift rfl ?_
    refine x_seq ?_
    refine x_region ?_
    refine s_do0 (d_store Try.sizeOf4 rfl rfl rfl (Nat.le_of_ble_eq_true rfl) SetL.eq) ?_
    rintro _ _ rfl
    refine x_nil ?_
    refine n_then ?_
    refine x_ret ?_
    refine r_then ?_
    refine x_done (.inl rfl) (.cons (r_cell Try.isAgg4 rfl (cell_own rfl)) .nil) ?_
    exact ⟨_, ⟨rfl, rfl⟩, inferInstance⟩
  · intro g1_3
    exact absurd rfl g1_3
theorem vzRead_spec (W0 : World) (A : List HP) (p : Option Addr) (h : Zv vzO p A) (pa : Nat) (n : Int) : Spec Try.prog W0 37 [.pointer p, .int .u32 pa, .int .i64 n] A
    (fun v B => v = .tuple #[.slice none 0 0, .bool false] ∧ B = A) := by
  refine spec_body Try.func37 Try.ntmps37 rfl rfl ?_
  refine x_seq ?_
  refine x_region ?_
  refine s_do rfl (d_box rfl rfl) ?_
  rintro _ _ ⟨b1, rfl, rfl⟩
  refine s_val rfl (v_assign rfl) ?_
  refine s_val rfl (v_assign rfl) ?_
  refine x_nil ?_
  refine n_then ?_
  refine x_seq ?_
  refine x_seq ?_
  refine x_region ?_
  refine s_val rfl (v_load Try.isAgg58 rfl (cell_own rfl)) ?_
  refine s_val rfl (v_move rfl) ?_
  refine s_val rfl (v_move rfl) ?_
  refine s_do rfl (d_call Try.call33 rfl (vzOwn_spec W0 _ p h.cons pa n)) ?_
  rintro _ B_ ⟨rfl, hB_⟩
  obtain rfl := hB_.symm
  refine s_val rfl (v_not rfl) ?_
  refine x_nil ?_
  refine n_then ?_
  refine x_if rfl ?_ ?_
  · intro c1
    refine x_seq ?_
    refine x_region ?_
    refine s_val rfl (v_assign rfl) ?_
    refine s_val rfl (v_assign rfl) ?_
    refine x_nil ?_
    refine n_then ?_
    refine x_ret ?_
    refine r_then ?_
    refine x_done (.inl rfl) (.cons (r_tmp rfl) (.cons (r_tmp rfl) .nil)) ?_
    exact ⟨_, ⟨rfl, rfl⟩, inferInstance⟩
  · intro c1
    exact absurd (by decide) c1
theorem vzWrite_spec (W0 : World) (A : List HP) (p : Option Addr) (h : Zv vzO p A) (pa : Nat) (a : Option Addr) (n c : Nat) : Spec Try.prog W0 42 [.pointer p, .int .u32 pa, .slice a n c] A
    (fun v B => v = .bool false ∧ B = A) := by
  refine spec_body Try.func42 Try.ntmps42 rfl rfl ?_
  refine x_seq ?_
  refine x_region ?_
  refine s_do rfl (d_box rfl rfl) ?_
  rintro _ _ ⟨b1, rfl, rfl⟩
  refine s_do rfl (d_box rfl rfl) ?_
  rintro _ _ ⟨b2, rfl, rfl⟩
  refine s_do rfl (d_box rfl rfl) ?_
  rintro _ _ ⟨b3, rfl, rfl⟩
  refine s_val rfl (v_assign rfl) ?_
  refine x_nil ?_
  refine n_then ?_
  refine x_seq ?_
  refine x_seq ?_
  refine x_region ?_
  refine s_val rfl (v_load Try.isAgg58 rfl (cell_own rfl)) ?_
  refine s_val rfl (v_load Try.isAgg24 rfl (cell_own rfl)) ?_
  refine s_val rfl (v_load Try.isAgg64 rfl (cell_own rfl)) ?_
  refine s_val rfl (v_len_slice Try.underlying64 rfl) ?_
  refine s_do rfl (d_call Try.call33 rfl (vzOwn_spec W0 _ p h.cons.cons.cons pa n)) ?_
  rintro _ B_ ⟨rfl, hB_⟩
  obtain rfl := hB_.symm
  refine s_val rfl (v_not rfl) ?_
  refine x_nil ?_
  refine n_then ?_
  refine x_if rfl ?_ ?_
  · intro c1
    refine x_seq ?_
    refine x_region ?_
    refine s_val rfl (v_assign rfl) ?_
    refine x_nil ?_
    refine n_then ?_
    refine x_ret ?_
    refine r_then ?_
    refine x_done (.inl rfl) (.cons (r_tmp rfl) .nil) ?_
    exact ⟨_, ⟨rfl, rfl⟩, inferInstance⟩
  · intro c1
    exact absurd (by decide) c1
theorem vzDirty_spec (W0 : World) (A : List HP) (p : Option Addr) (h : Zv vzO p A) : Spec Try.prog W0 43 [.pointer p] A (fun v B => v = .slice none 0 0 ∧ B = A) := by
  refine spec_body Try.func43 Try.ntmps43 rfl rfl ?_
  refine x_seq ?_
  refine x_region ?_
  refine s_val rfl (v_assign rfl) ?_
  refine x_nil ?_
  refine n_then ?_
  refine x_seq ?_
  refine x_seq ?_
  refine x_region ?_
  refine s_val rfl (v_move rfl) ?_
  refine s_do rfl (d_call Try.call77 rfl (vzNone_spec W0 _ p h)) ?_
  rintro _ B_ ⟨rfl, hB_⟩
  obtain rfl := hB_.symm
  refine x_nil ?_
  refine n_then ?_
  refine x_if rfl ?_ ?_
  · intro c1
    refine x_seq ?_
    refine x_region ?_
    refine s_val rfl (v_assign rfl) ?_
    refine x_nil ?_
    refine n_then ?_
    refine x_ret ?_
    refine r_then ?_
    refine x_done (.inl rfl) (.cons (r_tmp rfl) .nil) ?_
    exact ⟨_, ⟨rfl, rfl⟩, inferInstance⟩
  · intro c1
    exact absurd rfl c1
theorem vzMap_spec (W0 : World) (A : List HP) (p : Option Addr) (h : Zv vzO p A) : Spec Try.prog W0 44 [.pointer p] A (fun v B => v = .pointer none ∧ B = A) := by
  refine spec_body Try.func44 Try.ntmps44 rfl rfl ?_
  refine x_seq ?_
  refine x_region ?_
  refine s_val rfl (v_assign rfl) ?_
  refine x_nil ?_
  refine n_then ?_
  refine x_seq ?_
  refine x_seq ?_
  refine x_region ?_
  refine s_val rfl (v_move rfl) ?_
  refine s_do rfl (d_call Try.call77 rfl (vzNone_spec W0 _ p h)) ?_
  rintro _ B_ ⟨rfl, hB_⟩
  obtain rfl := hB_.symm
  refine x_nil ?_
  refine n_then ?_
  refine x_if rfl ?_ ?_
  · intro c1
    refine x_seq ?_
    refine x_region ?_
    refine s_val rfl (v_assign rfl) ?_
    refine x_nil ?_
    refine n_then ?_
    refine x_ret ?_
    refine r_then ?_
    refine x_done (.inl rfl) (.cons (r_tmp rfl) .nil) ?_
    exact ⟨_, ⟨rfl, rfl⟩, inferInstance⟩
  · intro c1
    exact absurd rfl c1
theorem vzStore_spec (W0 : World) (A : List HP) (p : Option Addr) (h : Zv vzO p A) : Spec Try.prog W0 45 [.pointer p] A (fun v B => v = .pointer none ∧ B = A) := by
  refine spec_body Try.func45 Try.ntmps45 rfl rfl ?_
  refine x_seq ?_
  refine x_region ?_
  refine s_val rfl (v_assign rfl) ?_
  refine x_nil ?_
  refine n_then ?_
  refine x_seq ?_
  refine x_seq ?_
  refine x_region ?_
  refine s_val rfl (v_move rfl) ?_
  refine s_do rfl (d_call Try.call77 rfl (vzNone_spec W0 _ p h)) ?_
  rintro _ B_ ⟨rfl, hB_⟩
  obtain rfl := hB_.symm
  refine x_nil ?_
  refine n_then ?_
  refine x_if rfl ?_ ?_
  · intro c1
    refine x_seq ?_
    refine x_region ?_
    refine s_val rfl (v_assign rfl) ?_
    refine x_nil ?_
    refine n_then ?_
    refine x_ret ?_
    refine r_then ?_
    refine x_done (.inl rfl) (.cons (r_tmp rfl) .nil) ?_
    exact ⟨_, ⟨rfl, rfl⟩, inferInstance⟩
  · intro c1
    exact absurd rfl c1
abbrev gzO : Obj := cob (List.replicate 24 (.int .i64 0) ++ [.bool false]) 85
theorem gzNone_spec (W0 : World) (A : List HP) (p : Option Addr) (h : Zv gzO p A) : Spec Try.prog W0 108 [.pointer p] A (fun v B => v = .bool true ∧ B = A) := by
  rcases h with rfl | ⟨b, rfl, h⟩
  · skip
    refine spec_body Try.func108 Try.ntmps108 rfl rfl ?_
    refine x_seq ?_
    refine x_region ?_
    refine s_val rfl (v_assign rfl) ?_
    refine x_nil ?_
    refine n_then ?_
    refine x_seq ?_
    refine x_region ?_
    refine s_val rfl (v_move rfl) ?_
    refine s_val rfl (v_eql_ptr_nil Try.underlying66 rfl rfl) ?_
    refine s_val rfl (v_move rfl) ?_
    refine s_or rfl rfl rfl ?_ ?_
    · intro g1_3
      refine s_no rfl rfl rfl rfl ?_
      refine s_no rfl rfl rfl rfl ?_
      refine s_no rfl rfl rfl rfl ?_
      refine s_no rfl rfl rfl rfl ?_
      refine s_val rfl (v_pick_t rfl rfl) ?_
      refine s_val rfl (v_assign rfl) ?_
      refine x_nil ?_
      refine n_then ?_
      refine x_ret ?_
      refine x_done (.inl rfl) (.cons (r_tmp rfl) .nil) ?_
      exact ⟨_, ⟨rfl, rfl⟩, inferInstance⟩
    · intro g1_3
      exact absurd rfl g1_3
  · skip
    refine spec_body Try.func108 Try.ntmps108 rfl rfl ?_
    refine x_seq ?_
    refine x_region ?_
    refine s_val rfl (v_assign rfl) ?_
    refine x_nil ?_
    refine n_then ?_
    refine x_seq ?_
    refine x_region ?_
    refine s_val rfl (v_move rfl) ?_
    refine s_val rfl (v_eql_ptr_nil Try.underlying66 rfl rfl) ?_
    refine s_val rfl (v_move rfl) ?_
    refine s_or rfl rfl rfl ?_ ?_
    · intro g1_3
      cases g1_3
    · intro g1_3
      refine s_val rfl (v_move rfl) ?_
      refine s_yes rfl rfl ?_
      refine s_val rfl (v_nilCheck rfl) ?_
      refine s_yes rfl rfl ?_
      refine s_val rfl (v_fieldAddr rfl Try.underlying85 rfl Try.sizeOf4 rfl (by first | exact Nat.zero_add _ | rfl)) ?_
      refine s_yes rfl rfl ?_
      refine s_val rfl (v_load Try.isAgg4 rfl (cell_ent h rfl)) ?_
      refine s_yes rfl rfl ?_
      refine s_val rfl (v_not rfl) ?_
      refine s_val rfl (v_pick_f rfl rfl) ?_
      refine s_val rfl (v_assign rfl) ?_
      refine x_nil ?_
      refine n_then ?_
      refine x_ret ?_
      refine x_done (.inl rfl) (.cons (r_tmp rfl) .nil) ?_
      exact ⟨_, ⟨rfl, rfl⟩, inferInstance⟩
theorem gzDrop_spec (W0 : World) (A : List HP) (p : Option Addr) (h : Zv gzO p A) (n : Int) : Spec Try.prog W0 85 [.pointer p, .int .i64 n] A (fun v B => v = .int .i64 7 ∧ B = A) := by
  refine spec_body Try.func85 Try.ntmps85 rfl rfl ?_
  refine x_seq ?_
  refine x_region ?_
  refine s_val rfl (v_assign rfl) ?_
  refine x_nil ?_
  refine n_then ?_
  refine x_seq ?_
  refine x_block ?_
  refine x_seq ?_
  refine x_region ?_
  refine s_val rfl (v_move rfl) ?_
  refine s_do rfl (d_call Try.call108 rfl (gzNone_spec W0 _ p h)) ?_
  rintro _ B_ ⟨rfl, hB_⟩
  obtain rfl := hB_.symm
  refine s_val rfl (v_assign rfl) ?_
  refine x_nil ?_
  refine n_then ?_
  refine x_if rfl ?_ ?_
  · intro c1
    refine x_seq ?_
    refine x_region ?_
    refine s_val rfl (v_assign rfl) ?_
    refine x_nil ?_
    refine n_then ?_
    refine x_ret ?_
    refine r_block ?_
    refine r_then ?_
    refine x_done (.inl rfl) (.cons (r_tmp rfl) .nil) ?_
    exact ⟨_, ⟨rfl, rfl⟩, inferInstance⟩
  · intro c1
    exact absurd rfl c1
theorem frNil_spec (W0 : World) (A : List HP) : Spec Try.prog W0 114 [.pointer none] A (fun v B => v = .bool true ∧ B = A) := by
  refine spec_body Try.func114 Try.ntmps114 rfl rfl ?_
  refine x_seq ?_
  refine x_region ?_
  refine s_val rfl (v_assign rfl) ?_
  refine x_nil ?_
  refine n_then ?_
  refine x_seq ?_
  refine x_region ?_
  refine s_val rfl (v_move rfl) ?_
  refine s_val rfl (v_eql_ptr_nil Try.underlying65 rfl rfl) ?_
  refine s_val rfl (v_move rfl) ?_
  refine s_or rfl rfl rfl ?_ ?_
  · intro g1_3
    refine s_no rfl rfl rfl rfl ?_
    refine s_no rfl rfl rfl rfl ?_
    refine s_no rfl rfl rfl rfl ?_
    refine s_no rfl rfl rfl rfl ?_
    refine s_val rfl (v_pick_t rfl rfl) ?_
    refine s_val rfl (v_assign rfl) ?_
    refine x_nil ?_
    refine n_then ?_
    refine x_ret ?_
    refine x_done (.inl rfl) (.cons (r_tmp rfl) .nil) ?_
    exact ⟨_, ⟨rfl, rfl⟩, inferInstance⟩
  · intro g1_3
    exact absurd rfl g1_3
theorem frLenNil_spec (W0 : World) (A : List HP) : Spec Try.prog W0 82 [.pointer none] A (fun v B => v = .int .i64 0 ∧ B = A) := by
  refine spec_body Try.func82 Try.ntmps82 rfl rfl ?_
  refine x_seq ?_
  refine x_region ?_
  refine s_val rfl (v_assign rfl) ?_
  refine x_nil ?_
  refine n_then ?_
  refine x_seq ?_
  refine x_seq ?_
  refine x_region ?_
  refine s_val rfl (v_move rfl) ?_
  refine s_do rfl (d_call Try.call114 rfl (frNil_spec W0 _)) ?_
  rintro _ B_ ⟨rfl, hB_⟩
  obtain rfl := hB_.symm
  refine x_nil ?_
  refine n_then ?_
  refine x_if rfl ?_ ?_
  · intro c1
    refine x_seq ?_
    refine x_region ?_
    refine s_val rfl (v_assign rfl) ?_
    refine x_nil ?_
    refine n_then ?_
    refine x_ret ?_
    refine r_then ?_
    refine x_done (.inl rfl) (.cons (r_tmp rfl) .nil) ?_
    exact ⟨_, ⟨rfl, rfl⟩, inferInstance⟩
  · intro c1
    exact absurd rfl c1
/-- Of no frames, or of no places. -/
theorem vzNew1_spec (W0 : World) (A : List HP) (q : Option Addr) : Spec Try.prog W0 39 [.pointer none, .pointer q] A (fun v B => v = .tuple #[.pointer none, .int .i64 7] ∧ B = A) := by
  refine spec_body Try.func39 Try.ntmps39 rfl rfl ?_
  refine x_seq ?_
  refine x_region ?_
  refine s_val rfl (v_assign rfl) ?_
  refine s_val rfl (v_assign rfl) ?_
  refine x_nil ?_
  refine n_then ?_
  refine x_seq ?_
  refine x_seq ?_
  refine x_region ?_
  refine s_val rfl (v_move rfl) ?_
  refine s_do rfl (d_call Try.call82 rfl (frLenNil_spec W0 _)) ?_
  rintro _ B_ ⟨rfl, hB_⟩
  obtain rfl := hB_.symm
  refine s_val rfl (v_eql rfl rfl) ?_
  refine s_val rfl (v_move rfl) ?_
  refine s_or rfl rfl rfl ?_ ?_
  · intro g1_4
    refine s_no rfl rfl rfl rfl ?_
    refine s_no rfl rfl rfl rfl ?_
    refine s_val rfl (v_pick_t rfl rfl) ?_
    refine x_nil ?_
    refine n_then ?_
    refine x_ift rfl ?_
    refine x_seq ?_
    refine x_region ?_
    refine s_val rfl (v_assign rfl) ?_
    refine s_val rfl (v_assign rfl) ?_
    refine x_nil ?_
    refine n_then ?_
    refine x_ret ?_
    refine r_then ?_
    refine x_done (.inl rfl) (.cons (r_tmp rfl) (.cons (r_tmp rfl) .nil)) ?_
    exact ⟨_, ⟨rfl, rfl⟩, inferInstance⟩
  · intro g1_4
    exact absurd rfl g1_4
theorem vzNew2_spec (W0 : World) (A : List HP) (ps : Nat) (fr : List Frm) (q : Option Addr) (hq : Zv gzO q (stoH ps fr :: A)) (h0 : 0 < fr.length) : Spec Try.prog W0 39 [.pointer (some ⟨ps, 0, none⟩), .pointer q] (stoH ps fr :: A) (fun v B => v = .tuple #[.pointer none, .int .i64 7] ∧ B = stoH ps fr :: A) := by
  refine spec_body Try.func39 Try.ntmps39 rfl rfl ?_
  refine x_seq ?_
  refine x_region ?_
  refine s_val rfl (v_assign rfl) ?_
  refine s_val rfl (v_assign rfl) ?_
  refine x_nil ?_
  refine n_then ?_
  refine x_seq ?_
  refine x_seq ?_
  refine x_region ?_
  refine s_val rfl (v_move rfl) ?_
  refine s_do rfl (d_call1 Try.call82 rfl (frLen_spec W0 _ ps fr)) ?_
  rintro _ B_ ⟨rfl, hB_⟩
  obtain rfl := hB_.symm
  refine s_val rfl (v_eql rfl rfl) ?_
  refine s_val rfl (v_move rfl) ?_
  refine s_or rfl rfl rfl ?_ ?_
  · intro g1_4
    omega
  · intro g1_4
    refine s_val rfl (v_move rfl) ?_
    refine s_yes rfl rfl ?_
    refine s_do rfl (d_call Try.call85 rfl (gzDrop_spec W0 _ q hq 12)) ?_
    rintro _ B_ ⟨rfl, hB_⟩
    obtain rfl := hB_.symm
    refine s_yes rfl rfl ?_
    refine s_val rfl (v_eql rfl rfl) ?_
    refine s_val rfl (v_pick_f rfl rfl) ?_
    refine x_nil ?_
    refine n_then ?_
    refine x_if rfl ?_ ?_
    · intro c1
      refine x_seq ?_
      refine x_region ?_
      refine s_val rfl (v_assign rfl) ?_
      refine s_val rfl (v_assign rfl) ?_
      refine x_nil ?_
      refine n_then ?_
      refine x_ret ?_
      refine r_then ?_
      refine x_done (.inl rfl) (.cons (r_tmp rfl) (.cons (r_tmp rfl) .nil)) ?_
      exact ⟨_, ⟨rfl, rfl⟩, inferInstance⟩
    · intro c1
      exact absurd rfl c1
theorem ViewZero_walk (W0 : World) (pa : Nat) (hpa : pa < 4294967296) (w kind : Int) (x : Nat) (a : Option Addr) (n c : Nat) :
    Spec Try.prog W0 10 [.int .u32 pa, .int .i64 w, .int .i64 kind, .int .u32 x, .slice a n c] [] (fun v B => v = .bool true ∧ B = []) := by
  refine spec_body Try.func10 Try.ntmps10 rfl rfl ?_
  refine x_seq ?_
  refine x_region ?_
  refine s_val rfl (v_assign rfl) ?_
  refine x_nil ?_
  refine n_then ?_
  refine x_seq ?_
  refine x_region ?_
  refine s_val rfl (v_assign rfl) ?_
  refine x_nil ?_
  refine n_then ?_
  refine x_seq ?_
  refine x_region ?_
  refine s_do rfl (d_allocA Try.zeroValue68) ?_
  rintro _ _ ⟨bu, rfl, rfl⟩
  refine x_nil ?_
  refine n_then ?_
  refine x_seq ?_
  refine x_region ?_
  refine s_val rfl (v_move rfl) ?_
  refine s_val rfl (v_move rfl) ?_
  refine s_val rfl (v_move rfl) ?_
  refine s_val rfl (v_move rfl) ?_
  refine s_do rfl (d_call Try.call35 rfl (vzFind_spec W0 _ none (.inl rfl) pa w kind)) ?_
  rintro _ B_ ⟨rfl, hB_⟩
  obtain rfl := hB_.symm
  refine s_val rfl (v_move rfl) ?_
  refine s_val rfl (v_extract rfl rfl) ?_
  refine s_val rfl (v_extract rfl rfl) ?_
  refine s_do rfl (d_allocA Try.zeroValue70) ?_
  rintro _ _ ⟨b2, rfl, rfl⟩
  refine s_do0 (d_storeAll Try.sizeOf70 rfl rfl rfl rfl rfl) ?_
  rintro _ _ rfl
  refine s_val rfl (v_assign rfl) ?_
  refine x_nil ?_
  refine n_then ?_
  refine x_seq ?_
  refine x_region ?_
  refine s_val rfl (v_move rfl) ?_
  refine s_val rfl (v_move rfl) ?_
  refine s_do rfl (d_call Try.call36 rfl (vzLoad_spec W0 _ (some ⟨bu, 0, none⟩) (.inr ⟨bu, rfl, inferInstance⟩) pa w)) ?_
  rintro _ B_ ⟨rfl, hB_⟩
  obtain rfl := hB_.symm
  refine s_val rfl (v_move rfl) ?_
  refine s_val rfl (v_extract rfl rfl) ?_
  refine s_val rfl (v_extract rfl rfl) ?_
  refine s_val rfl (v_assign rfl) ?_
  refine s_val rfl (v_assign rfl) ?_
  refine x_nil ?_
  refine n_then ?_
  refine x_seq ?_
  refine x_region ?_
  refine s_val rfl (v_move rfl) ?_
  refine s_val rfl (v_move rfl) ?_
  refine s_val rfl (v_move rfl) ?_
  refine s_val rfl (v_len_slice Try.underlying64 rfl) ?_
  refine s_do rfl (d_call Try.call37 rfl (vzRead_spec W0 _ none (.inl rfl) pa n)) ?_
  rintro _ B_ ⟨rfl, hB_⟩
  obtain rfl := hB_.symm
  refine s_val rfl (v_move rfl) ?_
  refine s_val rfl (v_extract rfl rfl) ?_
  refine s_val rfl (v_extract rfl rfl) ?_
  refine s_val rfl (v_assign rfl) ?_
  refine s_val rfl (v_assign rfl) ?_
  refine x_nil ?_
  refine n_then ?_
  refine x_seq ?_
  refine x_region ?_
  refine s_do rfl (d_call Try.call38 rfl (frNew_spec W0 _ 1 (by decide))) ?_
  rintro _ B_ ⟨ps, rfl, hB_⟩
  obtain rfl := hB_.symm
  refine s_val rfl (v_move rfl) ?_
  refine s_val rfl (v_extract rfl rfl) ?_
  refine s_val rfl (v_extract rfl rfl) ?_
  refine s_val rfl (v_assign rfl) ?_
  refine s_val rfl (v_assign rfl) ?_
  refine x_nil ?_
  refine n_then ?_
  refine x_seq ?_
  refine x_region ?_
  refine s_do rfl (d_call Try.call40 rfl (gmNew_spec W0 _)) ?_
  rintro _ B_ ⟨pm, rfl, hB_⟩
  obtain rfl := hB_.symm
  refine s_do rfl (d_call Try.call39 rfl (vzNew1_spec W0 _ (some ⟨pm, 0, none⟩))) ?_
  rintro _ B_ ⟨rfl, hB_⟩
  obtain rfl := hB_.symm
  refine s_val rfl (v_move rfl) ?_
  refine s_val rfl (v_extract rfl rfl) ?_
  refine s_val rfl (v_extract rfl rfl) ?_
  refine s_val rfl (v_assign rfl) ?_
  refine s_val rfl (v_assign rfl) ?_
  refine x_nil ?_
  refine n_then ?_
  refine x_seq ?_
  refine x_region ?_
  refine s_val rfl (v_move rfl) ?_
  refine s_do rfl (d_call1 Try.call39 rfl (vzNew2_spec W0 _ ps _ none (.inl rfl) (by decide))) ?_
  rintro _ B_ ⟨rfl, hB_⟩
  obtain rfl := hB_.symm
  refine s_val rfl (v_move rfl) ?_
  refine s_val rfl (v_extract rfl rfl) ?_
  refine s_val rfl (v_extract rfl rfl) ?_
  refine s_val rfl (v_assign rfl) ?_
  refine s_val rfl (v_assign rfl) ?_
  refine x_nil ?_
  refine n_then ?_
  refine x_seq ?_
  refine x_region ?_
  refine s_do rfl (d_allocA Try.zeroValue85) ?_
  rintro _ _ ⟨bz, rfl, rfl⟩
  refine x_nil ?_
  refine n_then ?_
  refine x_seq ?_
  refine run_pt (b := bz) (o' := gzO) rfl ?_
  refine x_region ?_
  refine s_val rfl (v_move rfl) ?_
  refine s_do rfl (d_call1 Try.call39 rfl (vzNew2_spec W0 _ ps _ (some ⟨bz, 0, none⟩) (.inr ⟨bz, rfl, inferInstance⟩) (by decide))) ?_
  rintro _ B_ ⟨rfl, hB_⟩
  obtain rfl := hB_.symm
  refine s_val rfl (v_move rfl) ?_
  refine s_val rfl (v_extract rfl rfl) ?_
  refine s_val rfl (v_extract rfl rfl) ?_
  refine s_val rfl (v_assign rfl) ?_
  refine s_val rfl (v_assign rfl) ?_
  refine x_nil ?_
  refine n_then ?_
  refine x_seq ?_
  refine x_region ?_
  refine s_val rfl (v_move rfl) ?_
  refine s_val rfl (v_eql rfl rfl) ?_
  refine s_val rfl (v_move rfl) ?_
  refine s_and rfl rfl rfl ?_ ?_
  · intro g11_3
    refine s_val rfl (v_move rfl) ?_
    refine s_yes rfl rfl ?_
    refine s_val rfl (v_move rfl) ?_
    refine s_yes rfl rfl ?_
    refine s_val rfl (v_eql rfl rfl) ?_
    refine s_val rfl (v_pick_t rfl rfl) ?_
    refine s_val rfl (v_move rfl) ?_
    refine s_and rfl rfl rfl ?_ ?_
    · intro g11_8
      refine s_val rfl (v_move rfl) ?_
      refine s_yes rfl rfl ?_
      refine s_val rfl (v_move rfl) ?_
      refine s_yes rfl rfl ?_
      refine s_val rfl (v_move rfl) ?_
      refine s_yes rfl rfl ?_
      refine s_do rfl (d_call Try.call41 rfl (vzSave_spec W0 _ (some ⟨bu, 0, none⟩) (.inr ⟨bu, rfl, inferInstance⟩) pa w x)) ?_
      rintro _ B_ ⟨rfl, hB_⟩
      obtain rfl := hB_.symm
      refine s_yes rfl rfl ?_
      refine s_val rfl (v_move rfl) ?_
      refine s_yes rfl rfl ?_
      refine s_val rfl (v_eql rfl rfl) ?_
      refine s_val rfl (v_pick_t rfl rfl) ?_
      refine s_val rfl (v_move rfl) ?_
      refine s_and rfl rfl rfl ?_ ?_
      · intro g11_16
        refine s_val rfl (v_move rfl) ?_
        refine s_yes rfl rfl ?_
        refine s_val rfl (v_not rfl) ?_
        refine s_val rfl (v_pick_t rfl rfl) ?_
        refine s_val rfl (v_move rfl) ?_
        refine s_and rfl rfl rfl ?_ ?_
        · intro g11_20
          refine s_val rfl (v_move rfl) ?_
          refine s_yes rfl rfl ?_
          refine s_val rfl (v_move rfl) ?_
          refine s_yes rfl rfl ?_
          refine s_do rfl (d_call Try.call33 rfl (vzOwn_spec W0 _ none (.inl rfl) pa 0)) ?_
          rintro _ B_ ⟨rfl, hB_⟩
          obtain rfl := hB_.symm
          refine s_yes rfl rfl ?_
          refine s_val rfl (v_not rfl) ?_
          refine s_val rfl (v_pick_t rfl rfl) ?_
          refine s_val rfl (v_move rfl) ?_
          refine s_and rfl rfl rfl ?_ ?_
          · intro g11_26
            refine s_val rfl (v_move rfl) ?_
            refine s_yes rfl rfl ?_
            refine s_val rfl (v_move rfl) ?_
            refine s_yes rfl rfl ?_
            refine s_do rfl (d_call Try.call42 rfl (vzWrite_spec W0 _ (some ⟨bu, 0, none⟩) (.inr ⟨bu, rfl, inferInstance⟩) pa a n c)) ?_
            rintro _ B_ ⟨rfl, hB_⟩
            obtain rfl := hB_.symm
            refine s_yes rfl rfl ?_
            refine s_val rfl (v_not rfl) ?_
            refine s_val rfl (v_pick_t rfl rfl) ?_
            refine s_val rfl (v_move rfl) ?_
            refine s_and rfl rfl rfl ?_ ?_
            · intro g11_32
              refine s_val rfl (v_move rfl) ?_
              refine s_yes rfl rfl ?_
              refine s_do rfl (d_call Try.call43 rfl (vzDirty_spec W0 _ none (.inl rfl))) ?_
              rintro _ B_ ⟨rfl, hB_⟩
              obtain rfl := hB_.symm
              refine s_yes rfl rfl ?_
              refine s_val rfl (v_len_slice Try.underlying56 rfl) ?_
              refine s_yes rfl rfl ?_
              refine s_val rfl (v_eql rfl rfl) ?_
              refine s_val rfl (v_pick_t rfl rfl) ?_
              refine s_val rfl (v_move rfl) ?_
              refine s_and rfl rfl rfl ?_ ?_
              · intro g11_38
                refine s_val rfl (v_move rfl) ?_
                refine s_yes rfl rfl ?_
                refine s_do rfl (d_call Try.call44 rfl (vzMap_spec W0 _ none (.inl rfl))) ?_
                rintro _ B_ ⟨rfl, hB_⟩
                obtain rfl := hB_.symm
                refine s_yes rfl rfl ?_
                refine s_val rfl (v_eql_ptr_nil Try.underlying66 rfl rfl) ?_
                refine s_val rfl (v_pick_t rfl rfl) ?_
                refine s_val rfl (v_move rfl) ?_
                refine s_and rfl rfl rfl ?_ ?_
                · intro g11_43
                  refine s_do rfl (d_call Try.call45 rfl (vzStore_spec W0 _ (some ⟨bu, 0, none⟩) (.inr ⟨bu, rfl, inferInstance⟩))) ?_
                  rintro _ B_ ⟨rfl, hB_⟩
                  obtain rfl := hB_.symm
                  refine s_yes rfl rfl ?_
                  refine s_val rfl (v_eql_ptr_nil Try.underlying65 rfl rfl) ?_
                  refine s_val rfl (v_pick_t rfl rfl) ?_
                  refine s_val rfl (v_move rfl) ?_
                  refine s_and rfl rfl rfl ?_ ?_
                  · intro g11_47
                    refine s_val rfl (v_move rfl) ?_
                    refine s_yes rfl rfl ?_
                    refine s_val rfl (v_eql rfl rfl) ?_
                    refine s_val rfl (v_pick_t rfl rfl) ?_
                    refine s_val rfl (v_move rfl) ?_
                    refine s_and rfl rfl rfl ?_ ?_
                    · intro g11_51
                      refine s_val rfl (v_move rfl) ?_
                      refine s_yes rfl rfl ?_
                      refine s_val rfl (v_move rfl) ?_
                      refine s_yes rfl rfl ?_
                      refine s_val rfl (v_eql rfl rfl) ?_
                      refine s_val rfl (v_pick_t rfl rfl) ?_
                      refine s_val rfl (v_move rfl) ?_
                      refine s_and rfl rfl rfl ?_ ?_
                      · intro g11_56
                        refine s_val rfl (v_move rfl) ?_
                        refine s_yes rfl rfl ?_
                        refine s_val rfl (v_move rfl) ?_
                        refine s_yes rfl rfl ?_
                        refine s_val rfl (v_eql rfl rfl) ?_
                        refine s_val rfl (v_pick_t rfl rfl) ?_
                        refine s_val rfl (v_assign rfl) ?_
                        refine x_nil ?_
                        refine n_then ?_
                        refine x_ret ?_
                        refine x_done (.inl rfl) (.cons (r_tmp rfl) .nil) ?_
                        exact ⟨_, ⟨rfl, rfl⟩, inferInstance⟩
                      · intro g11_56
                        exact absurd rfl g11_56
                    · intro g11_51
                      exact absurd rfl g11_51
                  · intro g11_47
                    exact absurd rfl g11_47
                · intro g11_43
                  exact absurd rfl g11_43
              · intro g11_38
                exact absurd rfl g11_38
            · intro g11_32
              exact absurd (by decide) g11_32
          · intro g11_26
            exact absurd (by decide) g11_26
        · intro g11_20
          exact absurd (by decide) g11_20
      · intro g11_16
        exact absurd rfl g11_16
    · intro g11_8
      exact absurd rfl g11_8
  · intro g11_3
    exact absurd rfl g11_3
end Go.Proofs.Ytpmacnfjafpdcaa
