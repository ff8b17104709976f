/-
  Layer 23 (queue): a queue that nobody made; the walk of QueueZero.
-/
import Derived.Test.YtalpgipkkdlpgaaQueueC
namespace Go.Proofs.Ytalpgipkkdlpgaa
open Go.RowKit
set_option linter.unusedSimpArgs false
set_option linter.unusedVariables false
set_option maxRecDepth 20000

/-- Nil, or as nobody made it. -/
def Qz (p : Option Addr) (A : List HP) : Prop := p = none ∨ ∃ b, p = some ⟨b, 0, none⟩ ∧ Ent A [pt b (qO false qs0)]
theorem Qz.cons {p : Option Addr} {A : List HP} {c : HP} (h : Qz p A) : Qz p (c :: A) := by
  rcases h with h | ⟨b, h1, h2⟩
  · exact .inl h
  · exact .inr ⟨b, h1, Ent.drop.trans h2⟩
theorem qz_cell {W0 : World} {A : List HP} {b off ty : Nat} {l : List Value} {v : Value} (h : Ent A [pt b (cob l ty)]) (hv : l[off]? = some v) : Cell (OwnP W0 A) b off v :=
  Cell.weak (B := [pt b (cob l ty)]) (cell_own (R := []) hv)
theorem qzNone_spec (W0 : World) (A : List HP) (p : Option Addr) (h : Qz p A) : Spec Try.prog W0 46 [.pointer p] A (fun v B => v = .bool true ∧ B = A) := by
  rcases h with rfl | ⟨b, rfl, h⟩
  · skip
    refine spec_body Try.func46 Try.ntmps46 rfl rfl ?_
    refine x_seq ?_
    refine x_region ?_
    refine s_val rfl (v_assign rfl) ?_
    refine x_nil ?_
    refine n_then ?_
    refine x_seq ?_
    refine x_region ?_
    refine s_val rfl (v_move rfl) ?_
    refine s_val rfl (v_eql_ptr_nil Try.underlying44 rfl rfl) ?_
    refine s_val rfl (v_move rfl) ?_
    refine s_or rfl rfl rfl ?_ ?_
    · intro g1_3
      refine s_no rfl rfl rfl rfl ?_
      refine s_no rfl rfl rfl rfl ?_
      refine s_no rfl rfl rfl rfl ?_
      refine s_no rfl rfl rfl rfl ?_
      refine s_val rfl (v_pick_t rfl rfl) ?_
      refine s_val rfl (v_assign rfl) ?_
      refine x_nil ?_
      refine n_then ?_
      refine x_ret ?_
      refine x_done (.inl rfl) (.cons (r_tmp rfl) .nil) ?_
      exact ⟨_, ⟨rfl, rfl⟩, inferInstance⟩
    · intro g1_3
      exact absurd rfl g1_3
  · skip
    refine spec_body Try.func46 Try.ntmps46 rfl rfl ?_
    refine x_seq ?_
    refine x_region ?_
    refine s_val rfl (v_assign rfl) ?_
    refine x_nil ?_
    refine n_then ?_
    refine x_seq ?_
    refine x_region ?_
    refine s_val rfl (v_move rfl) ?_
    refine s_val rfl (v_eql_ptr_nil Try.underlying44 rfl rfl) ?_
    refine s_val rfl (v_move rfl) ?_
    refine s_or rfl rfl rfl ?_ ?_
    · intro g1_3
      cases g1_3
    · intro g1_3
      refine s_val rfl (v_move rfl) ?_
      refine s_yes rfl rfl ?_
      refine s_val rfl (v_nilCheck rfl) ?_
      refine s_yes rfl rfl ?_
      refine s_val rfl (v_fieldAddr rfl Try.underlying77 rfl Try.sizeOf4 rfl (by first | exact Nat.zero_add _ | rfl)) ?_
      refine s_yes rfl rfl ?_
      refine s_val rfl (v_load Try.isAgg4 rfl (qz_cell h rfl)) ?_
      refine s_yes rfl rfl ?_
      refine s_val rfl (v_not rfl) ?_
      refine s_val rfl (v_pick_f rfl rfl) ?_
      refine s_val rfl (v_assign rfl) ?_
      refine x_nil ?_
      refine n_then ?_
      refine x_ret ?_
      refine x_done (.inl rfl) (.cons (r_tmp rfl) .nil) ?_
      exact ⟨_, ⟨rfl, rfl⟩, inferInstance⟩
theorem qzNext_spec (W0 : World) (A : List HP) (p q : Option Addr) (h : Qz p A) : Spec Try.prog W0 18 [.pointer p, .pointer q] A (fun v B => v = .tuple #[.int .i64 0, .bool false, .int .i64 0] ∧ B = A) := by
  refine spec_body Try.func18 Try.ntmps18 rfl rfl ?_
  refine x_seq ?_
  refine x_region ?_
  refine s_val rfl (v_assign rfl) ?_
  refine s_val rfl (v_assign rfl) ?_
  refine s_val rfl (v_assign rfl) ?_
  refine x_nil ?_
  refine n_then ?_
  refine x_seq ?_
  refine x_block ?_
  refine x_seq ?_
  refine x_region ?_
  refine s_val rfl (v_move rfl) ?_
  refine s_do rfl (d_call Try.call46 rfl (qzNone_spec W0 _ p h)) ?_
  rintro _ B_ ⟨rfl, hB_⟩
  obtain rfl := hB_.symm
  refine s_val rfl (v_assign rfl) ?_
  refine x_nil ?_
  refine n_then ?_
  refine x_if rfl ?_ ?_
  · intro c1
    refine x_seq ?_
    refine x_region ?_
    refine s_val rfl (v_assign rfl) ?_
    refine s_val rfl (v_assign rfl) ?_
    refine s_val rfl (v_assign rfl) ?_
    refine x_nil ?_
    refine n_then ?_
    refine x_ret ?_
    refine r_block ?_
    refine r_then ?_
    refine x_done (.inl rfl) (.cons (r_tmp rfl) (.cons (r_tmp rfl) (.cons (r_tmp rfl) .nil))) ?_
    exact ⟨_, ⟨rfl, rfl⟩, inferInstance⟩
  · intro c1
    exact absurd rfl c1
theorem qzTake_spec (W0 : World) (A : List HP) (p q : Option Addr) (h : Qz p A) : Spec Try.prog W0 28 [.pointer p, .pointer q] A (fun v B => v = .tuple #[.int .i64 0, .slice none 0 0, .bool false, .int .i64 0] ∧ B = A) := by
  refine spec_body Try.func28 Try.ntmps28 rfl rfl ?_
  refine x_seq ?_
  refine x_region ?_
  refine s_val rfl (v_assign rfl) ?_
  refine s_val rfl (v_assign rfl) ?_
  refine s_val rfl (v_assign rfl) ?_
  refine s_val rfl (v_assign rfl) ?_
  refine x_nil ?_
  refine n_then ?_
  refine x_seq ?_
  refine x_region ?_
  refine s_val rfl (v_move rfl) ?_
  refine s_val rfl (v_move rfl) ?_
  refine s_do rfl (d_call Try.call18 rfl (qzNext_spec W0 _ p q h)) ?_
  rintro _ B_ ⟨rfl, hB_⟩
  obtain rfl := hB_.symm
  refine s_val rfl (v_move rfl) ?_
  refine s_val rfl (v_extract rfl rfl) ?_
  refine s_val rfl (v_extract rfl rfl) ?_
  refine s_val rfl (v_extract rfl rfl) ?_
  refine s_val rfl (v_assign rfl) ?_
  refine s_val rfl (v_assign rfl) ?_
  refine s_val rfl (v_assign rfl) ?_
  refine x_nil ?_
  refine n_then ?_
  refine x_seq ?_
  refine x_seq ?_
  refine x_region ?_
  refine s_val rfl (v_move rfl) ?_
  refine s_val rfl (v_not rfl) ?_
  refine x_nil ?_
  refine n_then ?_
  refine x_if rfl ?_ ?_
  · intro c2
    refine x_seq ?_
    refine x_region ?_
    refine s_val rfl (v_move rfl) ?_
    refine s_val rfl (v_assign rfl) ?_
    refine s_val rfl (v_assign rfl) ?_
    refine s_val rfl (v_assign rfl) ?_
    refine s_val rfl (v_assign rfl) ?_
    refine x_nil ?_
    refine n_then ?_
    refine x_ret ?_
    refine r_then ?_
    refine x_done (.inl rfl) (.cons (r_tmp rfl) (.cons (r_tmp rfl) (.cons (r_tmp rfl) (.cons (r_tmp rfl) .nil)))) ?_
    exact ⟨_, ⟨rfl, rfl⟩, inferInstance⟩
  · intro c2
    exact absurd (by decide) c2
theorem qzLay_spec (W0 : World) (A : List HP) (p q : Option Addr) (r : Rg3) (h : Qz p A) : Spec Try.prog W0 15 [.pointer p, .pointer q, .agg (rgV r).toArray] A (fun v B => v = .int .i64 7 ∧ B = A) := by
  refine spec_body Try.func15 Try.ntmps15 rfl rfl ?_
  refine x_seq ?_
  refine x_region ?_
  refine s_do rfl (d_boxA rfl) ?_
  rintro _ _ ⟨b1, rfl, rfl⟩
  refine s_val rfl (v_assign rfl) ?_
  refine x_nil ?_
  refine n_then ?_
  refine x_seq ?_
  refine x_block ?_
  refine x_seq ?_
  refine x_region ?_
  refine s_val rfl (v_move rfl) ?_
  refine s_do rfl (d_call Try.call46 rfl (qzNone_spec W0 _ p h.cons)) ?_
  rintro _ B_ ⟨rfl, hB_⟩
  obtain rfl := hB_.symm
  refine s_val rfl (v_assign rfl) ?_
  refine x_nil ?_
  refine n_then ?_
  refine x_if rfl ?_ ?_
  · intro c1
    refine x_seq ?_
    refine x_region ?_
    refine s_val rfl (v_assign rfl) ?_
    refine x_nil ?_
    refine n_then ?_
    refine x_ret ?_
    refine r_block ?_
    refine r_then ?_
    refine x_done (.inl rfl) (.cons (r_tmp rfl) .nil) ?_
    exact ⟨_, ⟨rfl, rfl⟩, inferInstance⟩
  · intro c1
    exact absurd rfl c1
theorem qzOff_spec (W0 : World) (A : List HP) (p : Option Addr) (h : Qz p A) : Spec Try.prog W0 29 [.pointer p] A (fun v B => v = .int .i64 7 ∧ B = A) := by
  refine spec_body Try.func29 Try.ntmps29 rfl rfl ?_
  refine x_seq ?_
  refine x_region ?_
  refine s_val rfl (v_assign rfl) ?_
  refine x_nil ?_
  refine n_then ?_
  refine x_seq ?_
  refine x_seq ?_
  refine x_region ?_
  refine s_val rfl (v_move rfl) ?_
  refine s_do rfl (d_call Try.call46 rfl (qzNone_spec W0 _ p h)) ?_
  rintro _ B_ ⟨rfl, hB_⟩
  obtain rfl := hB_.symm
  refine x_nil ?_
  refine n_then ?_
  refine x_if rfl ?_ ?_
  · intro c1
    refine x_seq ?_
    refine x_region ?_
    refine s_val rfl (v_assign rfl) ?_
    refine x_nil ?_
    refine n_then ?_
    refine x_ret ?_
    refine r_then ?_
    refine x_done (.inl rfl) (.cons (r_tmp rfl) .nil) ?_
    exact ⟨_, ⟨rfl, rfl⟩, inferInstance⟩
  · intro c1
    exact absurd rfl c1
theorem qzDone_spec (W0 : World) (A : List HP) (p q : Option Addr) (a b : Int) (h : Qz p A) : Spec Try.prog W0 27 [.pointer p, .pointer q, .int .i64 a, .int .i64 b] A (fun v B => v = .int .i64 0 ∧ B = A) := by
  refine spec_body Try.func27 Try.ntmps27 rfl rfl ?_
  refine x_seq ?_
  refine x_region ?_
  refine s_val rfl (v_assign rfl) ?_
  refine x_nil ?_
  refine n_then ?_
  refine x_seq ?_
  refine x_block ?_
  refine x_seq ?_
  refine x_region ?_
  refine s_val rfl (v_move rfl) ?_
  refine s_do rfl (d_call Try.call46 rfl (qzNone_spec W0 _ p h)) ?_
  rintro _ B_ ⟨rfl, hB_⟩
  obtain rfl := hB_.symm
  refine s_val rfl (v_assign rfl) ?_
  refine x_nil ?_
  refine n_then ?_
  refine x_if rfl ?_ ?_
  · intro c1
    refine x_seq ?_
    refine x_region ?_
    refine s_val rfl (v_assign rfl) ?_
    refine x_nil ?_
    refine n_then ?_
    refine x_ret ?_
    refine r_block ?_
    refine r_then ?_
    refine x_done (.inl rfl) (.cons (r_tmp rfl) .nil) ?_
    exact ⟨_, ⟨rfl, rfl⟩, inferInstance⟩
  · intro c1
    exact absurd rfl c1
theorem qzBreak_spec (W0 : World) (A : List HP) (p : Option Addr) (a : Int) (h : Qz p A) : Spec Try.prog W0 30 [.pointer p, .int .i64 a] A (fun v B => v = .int .i64 7 ∧ B = A) := by
  refine spec_body Try.func30 Try.ntmps30 rfl rfl ?_
  refine x_seq ?_
  refine x_region ?_
  refine s_val rfl (v_assign rfl) ?_
  refine x_nil ?_
  refine n_then ?_
  refine x_seq ?_
  refine x_block ?_
  refine x_seq ?_
  refine x_region ?_
  refine s_val rfl (v_move rfl) ?_
  refine s_do rfl (d_call Try.call46 rfl (qzNone_spec W0 _ p h)) ?_
  rintro _ B_ ⟨rfl, hB_⟩
  obtain rfl := hB_.symm
  refine s_val rfl (v_assign rfl) ?_
  refine x_nil ?_
  refine n_then ?_
  refine x_if rfl ?_ ?_
  · intro c1
    refine x_seq ?_
    refine x_region ?_
    refine s_val rfl (v_assign rfl) ?_
    refine x_nil ?_
    refine n_then ?_
    refine x_ret ?_
    refine r_block ?_
    refine r_then ?_
    refine x_done (.inl rfl) (.cons (r_tmp rfl) .nil) ?_
    exact ⟨_, ⟨rfl, rfl⟩, inferInstance⟩
  · intro c1
    exact absurd rfl c1
theorem qzState_spec (W0 : World) (A : List HP) (p : Option Addr) (h : Qz p A) : Spec Try.prog W0 19 [.pointer p] A (fun v B => v = .agg (qsV qs0).toArray ∧ B = A) := by
  refine spec_body Try.func19 Try.ntmps19 rfl rfl ?_
  refine x_seq ?_
  refine x_region ?_
  refine s_do rfl (d_allocA Try.zeroValue55) ?_
  rintro _ _ ⟨b1, rfl, rfl⟩
  refine x_nil ?_
  refine n_then ?_
  refine x_seq ?_
  refine x_seq ?_
  refine x_region ?_
  refine s_val rfl (v_move rfl) ?_
  refine s_do rfl (d_call Try.call46 rfl (qzNone_spec W0 _ p h.cons)) ?_
  rintro _ B_ ⟨rfl, hB_⟩
  obtain rfl := hB_.symm
  refine x_nil ?_
  refine n_then ?_
  refine x_if rfl ?_ ?_
  · intro c1
    refine x_seq ?_
    refine x_region ?_
    refine s_val rfl (v_build Try.underlying55 Try.zeroValue55 (sized_cons Try.sizeOf49 (sized_cons Try.sizeOf4 (sized_cons Try.sizeOf3 (sized_cons Try.sizeOf3 (sized_cons Try.sizeOf3 sized_nil))))) fil_nil) ?_
    refine s_do0 (d_storeAll Try.sizeOf55 rfl rfl rfl rfl rfl) ?_
    rintro _ _ rfl
    refine x_nil ?_
    refine n_then ?_
    refine x_ret ?_
    refine r_then ?_
    refine x_done (.inl rfl) (.cons (r_all Try.isAgg55 Try.sizeOf55 rfl rfl) .nil) ?_
    exact ⟨_, ⟨rfl, rfl⟩, inferInstance⟩
  · intro c1
    exact absurd rfl c1
theorem QueueZero_walk (W0 : World) (r : Rg3) (a b : Int) : Spec Try.prog W0 7 [.agg (rgV r).toArray, .int .i64 a, .int .i64 b] [] (fun v B => v = .bool true ∧ B = []) := by
  refine spec_body Try.func7 Try.ntmps7 rfl rfl ?_
  refine x_seq ?_
  refine x_region ?_
  refine s_do rfl (d_boxA rfl) ?_
  rintro _ _ ⟨b1, rfl, rfl⟩
  refine s_val rfl (v_assign rfl) ?_
  refine x_nil ?_
  refine n_then ?_
  refine x_seq ?_
  refine x_region ?_
  refine s_val rfl (v_assign rfl) ?_
  refine x_nil ?_
  refine n_then ?_
  refine x_seq ?_
  refine x_region ?_
  refine s_do rfl (d_allocA Try.zeroValue77) ?_
  rintro _ _ ⟨bu, rfl, rfl⟩
  refine x_nil ?_
  refine n_then ?_
  refine x_seq ?_
  refine x_region ?_
  refine s_do rfl (d_call Try.call13 rfl (made23_spec W0 _ none 0 [] sla_nil (fun t ht => by simp at ht) (by decide))) ?_
  rintro _ B_ ⟨pv, ps, pm, qv, qs, qm, rfl, hB_⟩
  obtain rfl := hB_.symm
  refine s_val rfl (v_move rfl) ?_
  refine s_val rfl (v_extract rfl rfl) ?_
  refine s_val rfl (v_extract rfl rfl) ?_
  refine s_val rfl (v_assign rfl) ?_
  refine s_val rfl (v_assign rfl) ?_
  refine x_nil ?_
  refine n_then ?_
  refine x_seq ?_
  refine x_region ?_
  refine s_val rfl (v_move rfl) ?_
  refine s_val rfl (v_move rfl) ?_
  refine s_do rfl (d_call Try.call18 rfl (qzNext_spec W0 _ none _ (.inl rfl))) ?_
  rintro _ B_ ⟨rfl, hB_⟩
  obtain rfl := hB_.symm
  refine s_val rfl (v_move rfl) ?_
  refine s_val rfl (v_extract rfl rfl) ?_
  refine s_val rfl (v_extract rfl rfl) ?_
  refine s_val rfl (v_extract rfl rfl) ?_
  refine s_val rfl (v_assign rfl) ?_
  refine s_val rfl (v_assign rfl) ?_
  refine s_val rfl (v_assign rfl) ?_
  refine x_nil ?_
  refine n_then ?_
  refine x_seq ?_
  refine x_region ?_
  refine s_val rfl (v_move rfl) ?_
  refine s_do rfl (d_call Try.call28 rfl (qzTake_spec W0 _ (some ⟨bu, 0, none⟩) _ (.inr ⟨bu, rfl, inferInstance⟩))) ?_
  rintro _ B_ ⟨rfl, hB_⟩
  obtain rfl := hB_.symm
  refine s_val rfl (v_move rfl) ?_
  refine s_val rfl (v_extract rfl rfl) ?_
  refine s_val rfl (v_extract rfl rfl) ?_
  refine s_val rfl (v_extract rfl rfl) ?_
  refine s_val rfl (v_extract rfl rfl) ?_
  refine s_val rfl (v_assign rfl) ?_
  refine s_val rfl (v_assign rfl) ?_
  refine s_val rfl (v_assign rfl) ?_
  refine s_val rfl (v_assign rfl) ?_
  refine x_nil ?_
  refine n_then ?_
  refine x_seq ?_
  refine x_region ?_
  refine s_val rfl (v_move rfl) ?_
  refine s_val rfl (v_move rfl) ?_
  refine s_val rfl (v_loadAll Try.isAgg49 Try.sizeOf49 rfl rfl) ?_
  refine s_do rfl (d_call Try.call15 rfl (qzLay_spec W0 _ none _ r (.inl rfl))) ?_
  rintro _ B_ ⟨rfl, hB_⟩
  obtain rfl := hB_.symm
  refine s_val rfl (v_eql rfl rfl) ?_
  refine s_val rfl (v_move rfl) ?_
  refine s_and rfl rfl rfl ?_ ?_
  · intro g6_6
    refine s_val rfl (v_move rfl) ?_
    refine s_yes rfl rfl ?_
    refine s_val rfl (v_loadAll Try.isAgg49 Try.sizeOf49 rfl rfl) ?_
    refine s_yes rfl rfl ?_
    refine s_do rfl (d_call Try.call15 rfl (qzLay_spec W0 _ (some ⟨bu, 0, none⟩) _ r (.inr ⟨bu, rfl, inferInstance⟩))) ?_
    rintro _ B_ ⟨rfl, hB_⟩
    obtain rfl := hB_.symm
    refine s_yes rfl rfl ?_
    refine s_val rfl (v_eql rfl rfl) ?_
    refine s_val rfl (v_pick_t rfl rfl) ?_
    refine s_val rfl (v_move rfl) ?_
    refine s_and rfl rfl rfl ?_ ?_
    · intro g6_12
      refine s_val rfl (v_move rfl) ?_
      refine s_yes rfl rfl ?_
      refine s_do rfl (d_call Try.call29 rfl (qzOff_spec W0 _ none (.inl rfl))) ?_
      rintro _ B_ ⟨rfl, hB_⟩
      obtain rfl := hB_.symm
      refine s_yes rfl rfl ?_
      refine s_val rfl (v_eql rfl rfl) ?_
      refine s_val rfl (v_pick_t rfl rfl) ?_
      refine s_val rfl (v_move rfl) ?_
      refine s_and rfl rfl rfl ?_ ?_
      · intro g6_17
        refine s_do rfl (d_call Try.call29 rfl (qzOff_spec W0 _ (some ⟨bu, 0, none⟩) (.inr ⟨bu, rfl, inferInstance⟩))) ?_
        rintro _ B_ ⟨rfl, hB_⟩
        obtain rfl := hB_.symm
        refine s_yes rfl rfl ?_
        refine s_val rfl (v_eql rfl rfl) ?_
        refine s_val rfl (v_pick_t rfl rfl) ?_
        refine s_val rfl (v_move rfl) ?_
        refine s_and rfl rfl rfl ?_ ?_
        · intro g6_21
          refine s_val rfl (v_move rfl) ?_
          refine s_yes rfl rfl ?_
          refine s_val rfl (v_not rfl) ?_
          refine s_val rfl (v_pick_t rfl rfl) ?_
          refine s_val rfl (v_move rfl) ?_
          refine s_and rfl rfl rfl ?_ ?_
          · intro g6_25
            refine s_val rfl (v_move rfl) ?_
            refine s_yes rfl rfl ?_
            refine s_val rfl (v_not rfl) ?_
            refine s_val rfl (v_pick_t rfl rfl) ?_
            refine s_val rfl (v_move rfl) ?_
            refine s_and rfl rfl rfl ?_ ?_
            · intro g6_29
              refine s_val rfl (v_move rfl) ?_
              refine s_yes rfl rfl ?_
              refine s_val rfl (v_len_slice Try.underlying78 rfl) ?_
              refine s_yes rfl rfl ?_
              refine s_val rfl (v_eql rfl rfl) ?_
              refine s_val rfl (v_pick_t rfl rfl) ?_
              refine s_val rfl (v_move rfl) ?_
              refine s_and rfl rfl rfl ?_ ?_
              · intro g6_34
                refine s_val rfl (v_move rfl) ?_
                refine s_yes rfl rfl ?_
                refine s_val rfl (v_eql rfl rfl) ?_
                refine s_val rfl (v_pick_t rfl rfl) ?_
                refine s_val rfl (v_move rfl) ?_
                refine s_and rfl rfl rfl ?_ ?_
                · intro g6_38
                  refine s_val rfl (v_move rfl) ?_
                  refine s_yes rfl rfl ?_
                  refine s_val rfl (v_move rfl) ?_
                  refine s_yes rfl rfl ?_
                  refine s_val rfl (v_eql rfl rfl) ?_
                  refine s_val rfl (v_pick_t rfl rfl) ?_
                  refine s_val rfl (v_move rfl) ?_
                  refine s_and rfl rfl rfl ?_ ?_
                  · intro g6_43
                    refine s_val rfl (v_move rfl) ?_
                    refine s_yes rfl rfl ?_
                    refine s_val rfl (v_move rfl) ?_
                    refine s_yes rfl rfl ?_
                    refine s_val rfl (v_move rfl) ?_
                    refine s_yes rfl rfl ?_
                    refine s_val rfl (v_move rfl) ?_
                    refine s_yes rfl rfl ?_
                    refine s_do rfl (d_call Try.call27 rfl (qzDone_spec W0 _ none _ a b (.inl rfl))) ?_
                    rintro _ B_ ⟨rfl, hB_⟩
                    obtain rfl := hB_.symm
                    refine s_yes rfl rfl ?_
                    refine s_val rfl (v_move rfl) ?_
                    refine s_yes rfl rfl ?_
                    refine s_val rfl (v_eql rfl rfl) ?_
                    refine s_val rfl (v_pick_t rfl rfl) ?_
                    refine s_val rfl (v_move rfl) ?_
                    refine s_and rfl rfl rfl ?_ ?_
                    · intro g6_52
                      refine s_val rfl (v_move rfl) ?_
                      refine s_yes rfl rfl ?_
                      refine s_val rfl (v_move rfl) ?_
                      refine s_yes rfl rfl ?_
                      refine s_val rfl (v_move rfl) ?_
                      refine s_yes rfl rfl ?_
                      refine s_do rfl (d_call Try.call27 rfl (qzDone_spec W0 _ (some ⟨bu, 0, none⟩) _ a b (.inr ⟨bu, rfl, inferInstance⟩))) ?_
                      rintro _ B_ ⟨rfl, hB_⟩
                      obtain rfl := hB_.symm
                      refine s_yes rfl rfl ?_
                      refine s_val rfl (v_move rfl) ?_
                      refine s_yes rfl rfl ?_
                      refine s_val rfl (v_eql rfl rfl) ?_
                      refine s_val rfl (v_pick_t rfl rfl) ?_
                      refine s_val rfl (v_move rfl) ?_
                      refine s_and rfl rfl rfl ?_ ?_
                      · intro g6_60
                        refine s_val rfl (v_move rfl) ?_
                        refine s_yes rfl rfl ?_
                        refine s_val rfl (v_move rfl) ?_
                        refine s_yes rfl rfl ?_
                        refine s_do rfl (d_call Try.call30 rfl (qzBreak_spec W0 _ none a (.inl rfl))) ?_
                        rintro _ B_ ⟨rfl, hB_⟩
                        obtain rfl := hB_.symm
                        refine s_yes rfl rfl ?_
                        refine s_val rfl (v_eql rfl rfl) ?_
                        refine s_val rfl (v_pick_t rfl rfl) ?_
                        refine s_val rfl (v_move rfl) ?_
                        refine s_and rfl rfl rfl ?_ ?_
                        · intro g6_66
                          refine s_val rfl (v_move rfl) ?_
                          refine s_yes rfl rfl ?_
                          refine s_do rfl (d_call Try.call30 rfl (qzBreak_spec W0 _ (some ⟨bu, 0, none⟩) a (.inr ⟨bu, rfl, inferInstance⟩))) ?_
                          rintro _ B_ ⟨rfl, hB_⟩
                          obtain rfl := hB_.symm
                          refine s_yes rfl rfl ?_
                          refine s_val rfl (v_eql rfl rfl) ?_
                          refine s_val rfl (v_pick_t rfl rfl) ?_
                          refine s_val rfl (v_move rfl) ?_
                          refine s_and rfl rfl rfl ?_ ?_
                          · intro g6_71
                            refine s_val rfl (v_move rfl) ?_
                            refine s_yes rfl rfl ?_
                            refine s_do rfl (d_call Try.call19 rfl (qzState_spec W0 _ none (.inl rfl))) ?_
                            rintro _ B_ ⟨rfl, hB_⟩
                            obtain rfl := hB_.symm
                            refine s_yes rfl rfl ?_
                            refine s_do rfl (d_call Try.call19 rfl (qzState_spec W0 _ (some ⟨bu, 0, none⟩) (.inr ⟨bu, rfl, inferInstance⟩))) ?_
                            rintro _ B_ ⟨rfl, hB_⟩
                            obtain rfl := hB_.symm
                            refine s_yes rfl rfl ?_
                            refine s_val rfl (v_eql_agg Try.eqGuardType55 rfl rfl (q_struct Try.underlying55 Try.stoodInHeld55 (qf_gen rfl (part_agg Try.isAgg49 Try.sizeOf49 TakeL.eq) (part_agg Try.isAgg49 Try.sizeOf49 TakeL.eq) (q_struct Try.underlying49 Try.stoodInHeld49 (qf_scal rfl Try.isAgg24 rfl rfl (q_int Try.underlying24) (qf_scal rfl Try.isAgg24 rfl rfl (q_int Try.underlying24) (qf_scal rfl Try.isAgg24 rfl rfl (q_int Try.underlying24) (qf_scal rfl Try.isAgg3 rfl rfl (q_int Try.underlying3) qf_nil))))) (qf_scal rfl Try.isAgg4 rfl rfl (q_bool Try.underlying4) (qf_scal rfl Try.isAgg3 rfl rfl (q_int Try.underlying3) (qf_scal rfl Try.isAgg3 rfl rfl (q_int Try.underlying3) (qf_scal rfl Try.isAgg3 rfl rfl (q_int Try.underlying3) qf_nil))))))) ?_
                            refine s_val rfl (v_pick_t rfl rfl) ?_
                            refine s_val rfl (v_move rfl) ?_
                            refine s_and rfl rfl rfl ?_ ?_
                            · intro g6_77
                              refine s_do rfl (d_call Try.call19 rfl (qzState_spec W0 _ (some ⟨bu, 0, none⟩) (.inr ⟨bu, rfl, inferInstance⟩))) ?_
                              rintro _ B_ ⟨rfl, hB_⟩
                              obtain rfl := hB_.symm
                              refine s_yes rfl rfl ?_
                              refine s_val rfl (v_build Try.underlying55 Try.zeroValue55 (sized_cons Try.sizeOf49 (sized_cons Try.sizeOf4 (sized_cons Try.sizeOf3 (sized_cons Try.sizeOf3 (sized_cons Try.sizeOf3 sized_nil))))) fil_nil) ?_
                              refine s_yes rfl rfl ?_
                              refine s_val rfl (v_eql_agg Try.eqGuardType55 rfl rfl (q_struct Try.underlying55 Try.stoodInHeld55 (qf_gen rfl (part_agg Try.isAgg49 Try.sizeOf49 TakeL.eq) (part_agg Try.isAgg49 Try.sizeOf49 TakeL.eq) (q_struct Try.underlying49 Try.stoodInHeld49 (qf_scal rfl Try.isAgg24 rfl rfl (q_int Try.underlying24) (qf_scal rfl Try.isAgg24 rfl rfl (q_int Try.underlying24) (qf_scal rfl Try.isAgg24 rfl rfl (q_int Try.underlying24) (qf_scal rfl Try.isAgg3 rfl rfl (q_int Try.underlying3) qf_nil))))) (qf_scal rfl Try.isAgg4 rfl rfl (q_bool Try.underlying4) (qf_scal rfl Try.isAgg3 rfl rfl (q_int Try.underlying3) (qf_scal rfl Try.isAgg3 rfl rfl (q_int Try.underlying3) (qf_scal rfl Try.isAgg3 rfl rfl (q_int Try.underlying3) qf_nil))))))) ?_
                              refine s_val rfl (v_pick_t rfl rfl) ?_
                              refine s_val rfl (v_assign rfl) ?_
                              refine x_nil ?_
                              refine n_then ?_
                              refine x_ret ?_
                              refine x_done (.inl rfl) (.cons (r_tmp rfl) .nil) ?_
                              exact ⟨_, ⟨rfl, rfl⟩, inferInstance⟩
                            · intro g6_77
                              first | exact absurd rfl g6_77 | exact absurd (by simp) g6_77
                          · intro g6_71
                            first | exact absurd rfl g6_71 | exact absurd (by simp) g6_71
                        · intro g6_66
                          first | exact absurd rfl g6_66 | exact absurd (by simp) g6_66
                      · intro g6_60
                        first | exact absurd rfl g6_60 | exact absurd (by simp) g6_60
                    · intro g6_52
                      first | exact absurd rfl g6_52 | exact absurd (by simp) g6_52
                  · intro g6_43
                    first | exact absurd rfl g6_43 | exact absurd (by simp) g6_43
                · intro g6_38
                  first | exact absurd rfl g6_38 | exact absurd (by simp) g6_38
              · intro g6_34
                first | exact absurd rfl g6_34 | exact absurd (by simp) g6_34
            · intro g6_29
              first | exact absurd rfl g6_29 | exact absurd (by simp) g6_29
          · intro g6_25
            first | exact absurd rfl g6_25 | exact absurd (by simp) g6_25
        · intro g6_21
          first | exact absurd rfl g6_21 | exact absurd (by simp) g6_21
      · intro g6_17
        first | exact absurd rfl g6_17 | exact absurd (by simp) g6_17
    · intro g6_12
      first | exact absurd rfl g6_12 | exact absurd (by simp) g6_12
  · intro g6_6
    first | exact absurd rfl g6_6 | exact absurd (by simp) g6_6
end Go.Proofs.Ytalpgipkkdlpgaa
