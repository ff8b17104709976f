/-
  Part 6 of the proof of HcallZero: rules, and walks of functions. Conditions: none.
-/
import Derived.Test.YtnidndllknffgaaGreatHcallZeroE
namespace Go.Proofs.YtnidndllknffgaaGreat
open Go.RowKit
set_option linter.unusedSimpArgs false
set_option linter.unusedVariables false
set_option maxRecDepth 20000
abbrev twM (c : Cfg) (hb ps pb db qb gb : Nat) (a : Option Addr) (cap g0 g1 : Nat) (R : List HP) : List HP := pt hb (cob (hoV c ps pb db qb gb) 68) :: osl 50 1 (.slice a [g0, g1].length cap) ([g0, g1].map pV) :: guH g0 gs0 :: guH g1 gs0 :: R
theorem madeTwo_spec (W0 : World) (b1 b2 b3 b4 b5 : Nat) (R : List HP) :
    Spec Tryz.prog W0 12 [.agg (cfgV (twC b1 b2 b3 b4 b5)).toArray, .slice none 0 0, .slice none 0 0] (twH b1 b2 b3 b4 b5 R)
      (fun v B => ∃ hb ps pb db qb gb wb a cap a2 n2 cap2 g0 g1, v = .tuple #[pV hb, .slice a [g0, g1].length cap, pV wb, .slice a2 n2 cap2, .bool true] ∧ B = twM (twC b1 b2 b3 b4 b5) hb ps pb db qb gb a cap g0 g1 R) := by
  refine fun w hO => (spec_rebase (fun W hW => madeT_spec W [] (twC b1 b2 b3 b4 b5) (tw_ok hW) (tw_rt b1 b2 b3 b4 b5)) w hO).mono ?_
  rintro e w' ⟨v, B, rfl, ⟨C, ⟨hb, ps, pb, db, qb, gb, wb, a, cap, a2, n2, cap2, gbs, hl, rfl, rfl⟩, rfl⟩, hO'⟩
  obtain ⟨g0, g1, rfl⟩ : ∃ g0 g1, gbs = [g0, g1] := by
    match gbs, hl with
    | [x, y], _ => exact ⟨x, y, rfl⟩
  refine ⟨_, _, rfl, ⟨hb, ps, pb, db, qb, gb, wb, a, cap, a2, n2, cap2, g0, g1, rfl, rfl⟩, hO'.ent ?_⟩
  refine Ent.trans (B := kH 2 (grp ([g0, g1].map fun g => guH g gs0)) :: pt hb (cob (hoV (twC b1 b2 b3 b4 b5) ps pb db qb gb) 68) :: osl 50 1 (.slice a [g0, g1].length cap) ([g0, g1].map pV) :: R) ?_ ?_
  · simp only [List.cons_append, List.nil_append]
    exact inferInstance
  · refine Ent.trans (ent_open (A := [guH g0 gs0, guH g1 gs0])) ?_
    exact (inferInstance : Ent (guH g0 gs0 :: guH g1 gs0 :: pt hb (cob (hoV (twC b1 b2 b3 b4 b5) ps pb db qb gb) 68) :: osl 50 1 (.slice a [g0, g1].length cap) ([g0, g1].map pV) :: R) (twM (twC b1 b2 b3 b4 b5) hb ps pb db qb gb a cap g0 g1 R))
theorem ask_zero : askR (List.replicate 16 0) 0 [0, 0, 0, 0] 4 = List.replicate 16 0 := by decide
theorem awake37_spec (W0 : World) (R : List HP) : Spec Tryz.prog W0 11 [] R (fun v B => v = .bool true ∧ B = R) := by
  refine spec_body Tryz.func11 Tryz.ntmps11 rfl rfl ?_
  refine x_seq (x_region (s_val rfl (v_assign rfl) (x_nil (n_then (x_seq (x_region (s_do rfl (d_call Tryz.call18 rfl (lwTwo_spec W0 _)) ?_)))))))
  rintro _ B_ ⟨b1, b2, b3, b4, b5, rfl, hB_⟩
  obtain rfl := hB_.symm
  refine s_do rfl (d_call Tryz.call12 rfl (madeTwo_spec W0 b1 b2 b3 b4 b5 _)) ?_
  rintro _ B_ ⟨hb, ps, pb, db, qb, gb, wb, a, cap, a2, n2, cap2, g0, g1, rfl, hB_⟩
  obtain rfl := hB_.symm
  refine s_val rfl (v_move rfl) (s_val rfl (v_extract rfl rfl) (s_val rfl (v_extract rfl rfl) (s_val rfl (v_extract rfl rfl) (s_val rfl (v_extract rfl rfl) (s_val rfl (v_extract rfl rfl) (s_val rfl (v_assign rfl) (s_val rfl (v_assign rfl) (s_val rfl (v_assign rfl) (s_val rfl (v_assign rfl) (s_val rfl (v_assign rfl) (x_nil (n_then (x_seq (x_seq (x_region (s_val rfl (v_move rfl) (s_val rfl (v_not rfl) (s_val rfl (v_move rfl) ?_))))))))))))))))))
  refine s_or rfl rfl rfl ?_ ?_
  · intro g2_3
    exact absurd g2_3 (by decide)
  · intro g2_3
    refine s_val rfl (v_move rfl) (s_yes rfl rfl (s_val rfl (v_eql_ptr_nil Tryz.underlying30 rfl rfl) (s_val rfl (v_pick_f rfl rfl) (s_val rfl (v_move rfl) ?_))))
    refine s_or rfl rfl rfl ?_ ?_
    · intro g2_7
      first | exact absurd g2_7 (by decide) | (cases g2_7)
    · intro g2_7
      refine s_val rfl (v_move rfl) (s_yes rfl rfl (s_val rfl (v_len_slice Tryz.underlying31 rfl) (s_yes rfl rfl (s_val rfl (v_neq rfl rfl) (s_val rfl (v_pick_f rfl rfl) (x_nil (n_then ?_)))))))
      refine x_if rfl ?_ ?_
      · intro c2
        first | exact absurd c2 (by decide) | (simp at c2)
      · intro c2
        refine x_skip (n_then (x_seq ?_))
        refine run_gu (gb := g1) fun cs rb vb pv tr o hG hrl _ => ?_
        refine run_ent (B := pt g1 (guO cs) :: pt rb (rfO (List.replicate 16 0) 0) :: trH tr [] :: pt hb (cob (hoV (twC b1 b2 b3 b4 b5) ps pb db qb gb) 68) :: osl 50 1 (.slice a [g0, g1].length cap) ([g0, g1].map pV) :: R) (Ent.cons (Ent.cons (Ent.cons inferInstance))) ?_
        refine run_tk (r := osl 50 1) (b := .slice a [g0, g1].length cap) (run_osl (fun h1 h2 => by cases h2) fun lg nn c2 sp h1 h2 h3 h4 h5 => ?_)
        cases h1
        refine x_region (s_val rfl (v_move rfl) ?_)
        refine s_val rfl (v_idx Tryz.underlying31 Tryz.sizeOf50 rfl rfl (i := 1) rfl (show 1 < 2 by decide) (by first | exact Nat.zero_add _ | rfl)) ?_
        refine s_val rfl (v_load Tryz.isAgg50 rfl (cell_own rfl)) ?_
        refine s_val rfl (v_build0 Tryz.underlying43 Tryz.sizeOf42 Tryz.zeroValue43 rfl) ?_
        refine s_do rfl (d_call2 Tryz.call13 rfl (lwAsk_spec W0 _ g1 (List.replicate 16 0) 0 0 [0, 0, 0, 0] rfl hG rfl)) ?_
        rintro _ B_ ⟨rfl, hB_⟩
        obtain rfl := hB_.symm
        rw [ask_zero]
        refine x_nil (n_then (x_seq ?_))
        refine run_ent (B := osl 50 1 (.slice (some ⟨lg, 0, none⟩) [g0, g1].length cap) ([g0, g1].map pV) :: pt hb (cob (hoV (twC b1 b2 b3 b4 b5) ps pb db qb gb) 68) :: pt g1 (guO cs) :: pt rb (rfO (List.replicate 16 0) 0) :: trH tr [] :: R) ?_ ?_
        · refine Ent.trans (B := pt lg (cob ([g0, g1].map pV ++ sp) 50) :: pt hb (cob (hoV (twC b1 b2 b3 b4 b5) ps pb db qb gb) 68) :: pt g1 (guO cs) :: pt rb (rfO (List.replicate 16 0) 0) :: trH tr [] :: R) inferInstance ?_
          exact ent_osl h2 h3 rfl h5
        refine x_region (s_val rfl (v_move rfl) (s_val rfl (v_move rfl) ?_))
        refine s_do rfl (d_call5 Tryz.call14 rfl (doWho_spec W0 _ hb (twC b1 b2 b3 b4 b5) ps pb db qb gb (some ⟨lg, 0, none⟩) cap [g0, g1] 1 g1 rfl (show 2 ≤ 4 by decide) (List.replicate 16 0) 0 [] hG rfl (by decide) (by decide) rfl)) ?_
        rintro _ B_ ⟨rfl, hB_⟩
        obtain rfl := hB_.symm
        refine s_val rfl (v_move rfl) (s_val rfl (v_extract rfl rfl) (s_val rfl (v_extract rfl rfl) (s_val rfl (v_assign rfl) (s_val rfl (v_assign rfl) (x_nil (n_then (x_seq ?_)))))))
        refine run_tk (r := osl 50 1) (b := .slice (some ⟨lg, 0, none⟩) [g0, g1].length cap) (run_osl (fun h1 h2 => by cases h2) fun lg nn c2 sp h1 h2 h3 h4 h5 => ?_)
        cases h1
        refine x_region (s_val rfl (v_move rfl) (s_val rfl (v_eql rfl rfl) (s_val rfl (v_move rfl) ?_)))
        refine s_and rfl rfl rfl ?_ ?_
        · intro g6_3
          refine s_val rfl (v_move rfl) (s_yes rfl rfl (s_val rfl (v_eql rfl rfl) (s_val rfl (v_pick_t rfl rfl) (s_val rfl (v_move rfl) ?_))))
          refine s_and rfl rfl rfl ?_ ?_
          · intro g6_7
            refine s_val rfl (v_move rfl) (s_yes rfl rfl ?_)
            refine s_val rfl (v_idx Tryz.underlying31 Tryz.sizeOf50 rfl rfl (i := 1) rfl (show 1 < 2 by decide) (by first | exact Nat.zero_add _ | rfl)) ?_
            refine s_yes rfl rfl (s_val rfl (v_load Tryz.isAgg50 rfl (cell_own rfl)) ?_)
            refine s_yes rfl rfl (s_do rfl (d_call2 Tryz.call17 rfl (guRegs_spec W0 _ g1 (ansR (List.replicate 16 0) 0 1) 4 hG rfl)) ?_)
            rintro _ B_ ⟨rfl, hB_⟩
            obtain rfl := hB_.symm
            refine s_yes rfl rfl ?_
            refine s_val rfl (v_index Tryz.underlying58 Tryz.sizeOf42 Tryz.isAgg42 rfl rfl rfl (by decide) rfl) ?_
            refine s_yes rfl rfl (s_val rfl (v_eql rfl rfl) (s_val rfl (v_pick_t rfl rfl) (s_val rfl (v_move rfl) ?_)))
            refine s_and rfl rfl rfl ?_ ?_
            · intro g6_15
              refine s_val rfl (v_move rfl) (s_yes rfl rfl ?_)
              refine s_val rfl (v_idx Tryz.underlying31 Tryz.sizeOf50 rfl rfl (i := 1) rfl (show 1 < 2 by decide) (by first | exact Nat.zero_add _ | rfl)) ?_
              refine s_yes rfl rfl (s_val rfl (v_load Tryz.isAgg50 rfl (cell_own rfl)) ?_)
              refine s_yes rfl rfl (s_do rfl (d_call1 Tryz.call30 rfl (guTrace_spec W0 _ g1 hG)) ?_)
              rintro _ B_ ⟨rfl, hB_⟩
              obtain rfl := hB_.symm
              refine s_yes rfl rfl (s_do rfl (d_call1 Tryz.call31 rfl (trLen_spec W0 _ tr _)) ?_)
              rintro _ B_ ⟨rfl, hB_⟩
              obtain rfl := hB_.symm
              refine s_yes rfl rfl (s_val rfl (v_eql rfl rfl) (s_val rfl (v_pick_t rfl rfl) (s_val rfl (v_assign rfl) (x_nil (n_then (x_ret (x_done (.inl rfl) (.cons (r_tmp rfl) .nil) ?_)))))))
              exact ⟨_, ⟨rfl, rfl⟩, inferInstance⟩
            · intro g6_15
              exact absurd (by decide) g6_15
          · intro g6_7
            exact absurd (by decide) g6_7
        · intro g6_3
          exact absurd (by decide) g6_3
abbrev zhO : Obj := cob [.int .i64 0, .slice none 0 0, .slice none 0 0, .slice none 0 0, .slice none 0 0, .slice none 0 0, .int .i64 0, .int .i64 0, .pointer none, .pointer none, .pointer none, .pointer none, .pointer none] 68
theorem zhNone_spec (W0 : World) (A : List HP) (p : Option Addr) (h : Zo zhO p A) : Spec Tryz.prog W0 36 [.pointer p] A (fun v B => v = .bool true ∧ B = A) := by
  rcases h with rfl | ⟨b, rfl, h⟩
  · skip
    refine spec_body Tryz.func36 Tryz.ntmps36 rfl rfl ?_
    refine x_seq (x_region (s_val rfl (v_assign rfl) (x_nil (n_then (x_seq (x_region (s_val rfl (v_move rfl) (s_val rfl (v_eql_ptr_nil Tryz.underlying30 rfl rfl) (s_val rfl (v_move rfl) ?_)))))))))
    refine s_or rfl rfl rfl ?_ ?_
    · intro g1_3
      refine s_no rfl rfl rfl rfl (s_no rfl rfl rfl rfl (s_no rfl rfl rfl rfl (s_no rfl rfl rfl rfl (s_val rfl (v_pick_t rfl rfl) (s_val rfl (v_assign rfl) (x_nil (n_then (x_ret (x_done (.inl rfl) (.cons (r_tmp rfl) .nil) ?_)))))))))
      exact ⟨_, ⟨rfl, rfl⟩, inferInstance⟩
    · intro g1_3
      exact absurd rfl g1_3
  · skip
    refine spec_body Tryz.func36 Tryz.ntmps36 rfl rfl ?_
    refine x_seq (x_region (s_val rfl (v_assign rfl) (x_nil (n_then (x_seq (x_region (s_val rfl (v_move rfl) (s_val rfl (v_eql_ptr_nil Tryz.underlying30 rfl rfl) (s_val rfl (v_move rfl) ?_)))))))))
    refine s_or rfl rfl rfl ?_ ?_
    · intro g1_3
      cases g1_3
    · intro g1_3
      refine s_val rfl (v_move rfl) (s_yes rfl rfl (s_val rfl (v_nilCheck rfl) (s_yes rfl rfl ?_)))
      refine s_val rfl (v_fieldAddr rfl Tryz.underlying68 rfl Tryz.sizeOf63 rfl (by first | exact Nat.zero_add _ | rfl)) ?_
      refine s_yes rfl rfl (s_val rfl (v_load Tryz.isAgg63 rfl (zo_cell h rfl)) ?_)
      refine s_yes rfl rfl (s_val rfl (v_eql_ptr_nil Tryz.underlying63 rfl rfl) (s_val rfl (v_pick_f rfl rfl) (s_val rfl (v_assign rfl) (x_nil (n_then (x_ret (x_done (.inl rfl) (.cons (r_tmp rfl) .nil) ?_)))))))
      exact ⟨_, ⟨rfl, rfl⟩, inferInstance⟩
theorem zhStore_spec (W0 : World) (A : List HP) (p : Option Addr) (h : Zo zhO p A) : Spec Tryz.prog W0 21 [.pointer p] A (fun v B => v = .pointer none ∧ B = A) := by
  refine spec_body Tryz.func21 Tryz.ntmps21 rfl rfl ?_
  refine x_seq (x_region (s_val rfl (v_assign rfl) (x_nil (n_then (x_seq (x_seq (x_region (s_val rfl (v_move rfl) (s_do rfl (d_call Tryz.call36 rfl (zhNone_spec W0 _ p h)) ?_)))))))))
  rintro _ B_ ⟨rfl, hB_⟩
  obtain rfl := hB_.symm
  refine x_nil (n_then ?_)
  refine x_if rfl ?_ ?_
  · intro c1
    refine x_seq (x_region (s_val rfl (v_assign rfl) (x_nil (n_then (x_ret (r_then (x_done (.inl rfl) (.cons (r_tmp rfl) .nil) ?_)))))))
    exact ⟨_, ⟨rfl, rfl⟩, inferInstance⟩
  · intro c1
    exact absurd rfl c1
theorem zhPool_spec (W0 : World) (A : List HP) (p : Option Addr) (h : Zo zhO p A) : Spec Tryz.prog W0 22 [.pointer p] A (fun v B => v = .pointer none ∧ B = A) := by
  refine spec_body Tryz.func22 Tryz.ntmps22 rfl rfl ?_
  refine x_seq (x_region (s_val rfl (v_assign rfl) (x_nil (n_then (x_seq (x_seq (x_region (s_val rfl (v_move rfl) (s_do rfl (d_call Tryz.call36 rfl (zhNone_spec W0 _ p h)) ?_)))))))))
  rintro _ B_ ⟨rfl, hB_⟩
  obtain rfl := hB_.symm
  refine x_nil (n_then ?_)
  refine x_if rfl ?_ ?_
  · intro c1
    refine x_seq (x_region (s_val rfl (v_assign rfl) (x_nil (n_then (x_ret (r_then (x_done (.inl rfl) (.cons (r_tmp rfl) .nil) ?_)))))))
    exact ⟨_, ⟨rfl, rfl⟩, inferInstance⟩
  · intro c1
    exact absurd rfl c1
theorem zhDisk_spec (W0 : World) (A : List HP) (p : Option Addr) (h : Zo zhO p A) : Spec Tryz.prog W0 23 [.pointer p] A (fun v B => v = .pointer none ∧ B = A) := by
  refine spec_body Tryz.func23 Tryz.ntmps23 rfl rfl ?_
  refine x_seq (x_region (s_val rfl (v_assign rfl) (x_nil (n_then (x_seq (x_seq (x_region (s_val rfl (v_move rfl) (s_do rfl (d_call Tryz.call36 rfl (zhNone_spec W0 _ p h)) ?_)))))))))
  rintro _ B_ ⟨rfl, hB_⟩
  obtain rfl := hB_.symm
  refine x_nil (n_then ?_)
  refine x_if rfl ?_ ?_
  · intro c1
    refine x_seq (x_region (s_val rfl (v_assign rfl) (x_nil (n_then (x_ret (r_then (x_done (.inl rfl) (.cons (r_tmp rfl) .nil) ?_)))))))
    exact ⟨_, ⟨rfl, rfl⟩, inferInstance⟩
  · intro c1
    exact absurd rfl c1
theorem zhPorts_spec (W0 : World) (A : List HP) (p : Option Addr) (h : Zo zhO p A) : Spec Tryz.prog W0 24 [.pointer p] A (fun v B => v = .pointer none ∧ B = A) := by
  refine spec_body Tryz.func24 Tryz.ntmps24 rfl rfl ?_
  refine x_seq (x_region (s_val rfl (v_assign rfl) (x_nil (n_then (x_seq (x_seq (x_region (s_val rfl (v_move rfl) (s_do rfl (d_call Tryz.call36 rfl (zhNone_spec W0 _ p h)) ?_)))))))))
  rintro _ B_ ⟨rfl, hB_⟩
  obtain rfl := hB_.symm
  refine x_nil (n_then ?_)
  refine x_if rfl ?_ ?_
  · intro c1
    refine x_seq (x_region (s_val rfl (v_assign rfl) (x_nil (n_then (x_ret (r_then (x_done (.inl rfl) (.cons (r_tmp rfl) .nil) ?_)))))))
    exact ⟨_, ⟨rfl, rfl⟩, inferInstance⟩
  · intro c1
    exact absurd rfl c1
theorem zhGate_spec (W0 : World) (A : List HP) (p : Option Addr) (h : Zo zhO p A) : Spec Tryz.prog W0 15 [.pointer p] A (fun v B => v = .pointer none ∧ B = A) := by
  refine spec_body Tryz.func15 Tryz.ntmps15 rfl rfl ?_
  refine x_seq (x_region (s_val rfl (v_assign rfl) (x_nil (n_then (x_seq (x_seq (x_region (s_val rfl (v_move rfl) (s_do rfl (d_call Tryz.call36 rfl (zhNone_spec W0 _ p h)) ?_)))))))))
  rintro _ B_ ⟨rfl, hB_⟩
  obtain rfl := hB_.symm
  refine x_nil (n_then ?_)
  refine x_if rfl ?_ ?_
  · intro c1
    refine x_seq (x_region (s_val rfl (v_assign rfl) (x_nil (n_then (x_ret (r_then (x_done (.inl rfl) (.cons (r_tmp rfl) .nil) ?_)))))))
    exact ⟨_, ⟨rfl, rfl⟩, inferInstance⟩
  · intro c1
    exact absurd rfl c1
theorem zhConfig_spec (W0 : World) (A : List HP) (p : Option Addr) (h : Zo zhO p A) : Spec Tryz.prog W0 25 [.pointer p] A (fun v B => v = .agg #[.int .i64 0, .slice none 0 0, .slice none 0 0, .slice none 0 0, .slice none 0 0, .slice none 0 0, .int .i64 0, .int .i64 0] ∧ B = A) := by
  refine spec_body Tryz.func25 Tryz.ntmps25 rfl rfl ?_
  refine x_seq (x_region (s_do rfl (d_allocA Tryz.zeroValue29) ?_))
  rintro _ _ ⟨b1, rfl, rfl⟩
  refine x_nil (n_then (x_seq (x_seq (x_region (s_val rfl (v_move rfl) (s_do rfl (d_call Tryz.call36 rfl (zhNone_spec W0 _ p h.cons)) ?_))))))
  rintro _ B_ ⟨rfl, hB_⟩
  obtain rfl := hB_.symm
  refine x_nil (n_then ?_)
  refine x_if rfl ?_ ?_
  · intro c1
    refine x_seq (x_region (s_val rfl (v_build Tryz.underlying29 Tryz.zeroValue29 (sized_cons Tryz.sizeOf3 (sized_cons Tryz.sizeOf23 (sized_cons Tryz.sizeOf24 (sized_cons Tryz.sizeOf25 (sized_cons Tryz.sizeOf26 (sized_cons Tryz.sizeOf27 (sized_cons Tryz.sizeOf3 (sized_cons Tryz.sizeOf3 sized_nil)))))))) fil_nil) ?_))
    refine s_do0 (d_storeAll Tryz.sizeOf29 rfl rfl rfl rfl rfl) ?_
    rintro _ _ rfl
    refine x_nil (n_then (x_ret (r_then (x_done (.inl rfl) (.cons (r_all Tryz.isAgg29 Tryz.sizeOf29 rfl rfl) .nil) ?_))))
    exact ⟨_, ⟨rfl, rfl⟩, inferInstance⟩
  · intro c1
    exact absurd rfl c1
theorem zhRx_spec (W0 : World) (A : List HP) (p : Option Addr) (h : Zo zhO p A) (g : Option Addr) (i : Int) : Spec Tryz.prog W0 20 [.pointer p, .pointer g, .int .i64 i] A (fun v B => v = .int .i64 0 ∧ B = A) := by
  refine spec_body Tryz.func20 Tryz.ntmps20 rfl rfl ?_
  refine x_seq (x_region (s_val rfl (v_assign rfl) (x_nil (n_then (x_seq (x_seq (x_region (s_val rfl (v_move rfl) (s_do rfl (d_call Tryz.call36 rfl (zhNone_spec W0 _ p h)) ?_)))))))))
  rintro _ B_ ⟨rfl, hB_⟩
  obtain rfl := hB_.symm
  refine s_val rfl (v_move rfl) ?_
  refine s_or rfl rfl rfl ?_ ?_
  · intro g1_3
    refine s_no rfl rfl rfl rfl (s_val rfl (v_pick_t rfl rfl) (x_nil (n_then (x_ift rfl (x_seq (x_region (s_val rfl (v_assign rfl) (x_nil (n_then (x_ret (r_then (x_done (.inl rfl) (.cons (r_tmp rfl) .nil) ?_))))))))))))
    exact ⟨_, ⟨rfl, rfl⟩, inferInstance⟩
  · intro g1_3
    exact absurd rfl g1_3
theorem zhDo_spec (W0 : World) (A : List HP) (p : Option Addr) (h : Zo zhO p A) (a : Option Addr) (n c : Nat) (i : Int) : Spec Tryz.prog W0 14 [.pointer p, .slice a n c, .int .i64 i] A (fun v B => v = .tuple #[.int .i64 7, .int .i64 0] ∧ B = A) := by
  refine spec_body Tryz.func14 Tryz.ntmps14 rfl rfl ?_
  refine x_seq (x_region (s_val rfl (v_assign rfl) (s_val rfl (v_assign rfl) (x_nil (n_then (x_seq (x_seq (x_region (s_val rfl (v_move rfl) (s_do rfl (d_call Tryz.call36 rfl (zhNone_spec W0 _ p h)) ?_))))))))))
  rintro _ B_ ⟨rfl, hB_⟩
  obtain rfl := hB_.symm
  refine s_val rfl (v_move rfl) ?_
  refine s_or rfl rfl rfl ?_ ?_
  · intro g1_3
    refine s_no rfl rfl rfl rfl (s_val rfl (v_pick_t rfl rfl) (s_val rfl (v_move rfl) (s_no rfl rfl rfl rfl (s_no rfl rfl rfl rfl (s_no rfl rfl rfl rfl (s_no rfl rfl rfl rfl (s_val rfl (v_pick_t rfl rfl) (s_val rfl (v_move rfl) (s_no rfl rfl rfl rfl (s_no rfl rfl rfl rfl (s_no rfl rfl rfl rfl (s_no rfl rfl rfl rfl (s_no rfl rfl rfl rfl (s_val rfl (v_pick_t rfl rfl) (x_nil (n_then (x_ift rfl (x_seq (x_region (s_val rfl (v_assign rfl) (s_val rfl (v_assign rfl) (x_nil (n_then ?_)))))))))))))))))))))))
    refine x_ret (r_then (x_done (.inl rfl) (.cons (r_tmp rfl) (.cons (r_tmp rfl) .nil)) ?_))
    exact ⟨_, ⟨rfl, rfl⟩, inferInstance⟩
  · intro g1_3
    exact absurd rfl g1_3
theorem hoDoNil_spec (W0 : World) (R : List HP) (hb : Nat) (cf : Cfg) (ps pb db qb gb : Nat) (i : Int) : Spec Tryz.prog W0 14 [pV hb, .slice none 0 0, .int .i64 i] (pt hb (cob (hoV cf ps pb db qb gb) 68) :: R) (fun v B => v = .tuple #[.int .i64 7, .int .i64 0] ∧ B = pt hb (cob (hoV cf ps pb db qb gb) 68) :: R) := by
  refine spec_body Tryz.func14 Tryz.ntmps14 rfl rfl ?_
  refine x_seq (x_region (s_val rfl (v_assign rfl) (s_val rfl (v_assign rfl) (x_nil (n_then (x_seq (x_seq (x_region (s_val rfl (v_move rfl) (s_do rfl (d_call1 Tryz.call36 rfl (hoNone_spec W0 _ hb cf ps pb db qb gb)) ?_))))))))))
  rintro _ B_ ⟨rfl, hB_⟩
  obtain rfl := hB_.symm
  refine s_val rfl (v_move rfl) ?_
  refine s_or rfl rfl rfl ?_ ?_
  · intro g1_3
    exact absurd g1_3 (by decide)
  · intro g1_3
    refine s_val rfl (v_move rfl) (s_yes rfl rfl (s_val rfl (v_lss rfl rfl) (s_val rfl (v_pick_f rfl rfl) (s_val rfl (v_move rfl) ?_))))
    refine s_or rfl rfl rfl ?_ ?_
    · intro g1_7
      refine s_no rfl rfl rfl rfl (s_no rfl rfl rfl rfl (s_no rfl rfl rfl rfl (s_val rfl (v_pick_t rfl rfl) (s_val rfl (v_move rfl) (s_no rfl rfl rfl rfl (s_no rfl rfl rfl rfl (s_no rfl rfl rfl rfl (s_no rfl rfl rfl rfl (s_no rfl rfl rfl rfl (s_val rfl (v_pick_t rfl rfl) (x_nil (n_then (x_ift rfl (x_seq (x_region (s_val rfl (v_assign rfl) (s_val rfl (v_assign rfl) (x_nil (n_then (x_ret (r_then (x_done (.inl rfl) (.cons (r_tmp rfl) (.cons (r_tmp rfl) .nil)) ?_))))))))))))))))))))))
      exact ⟨_, ⟨rfl, rfl⟩, inferInstance⟩
    · intro g1_7
      refine s_val rfl (v_move rfl) (s_yes rfl rfl (s_val rfl (v_move rfl) (s_yes rfl rfl (s_val rfl (v_len_slice Tryz.underlying31 rfl) (s_yes rfl rfl (s_val rfl (v_geq rfl rfl) (s_val rfl (v_pick_f rfl rfl) (s_val rfl (v_move rfl) ?_))))))))
      refine s_or rfl rfl rfl ?_ ?_
      · intro g1_13
        refine s_no rfl rfl rfl rfl (s_no rfl rfl rfl rfl (s_no rfl rfl rfl rfl (s_no rfl rfl rfl rfl (s_val rfl (v_pick_t rfl rfl) (x_nil (n_then (x_ift rfl (x_seq (x_region (s_val rfl (v_assign rfl) (s_val rfl (v_assign rfl) (x_nil (n_then (x_ret (r_then (x_done (.inl rfl) (.cons (r_tmp rfl) (.cons (r_tmp rfl) .nil)) ?_))))))))))))))))
        exact ⟨_, ⟨rfl, rfl⟩, inferInstance⟩
      · intro g1_13
        omega
theorem hoRxNil_spec (W0 : World) (R : List HP) (hb : Nat) (cf : Cfg) (ps pb db qb gb : Nat) (i : Int) : Spec Tryz.prog W0 20 [pV hb, .pointer none, .int .i64 i] (pt hb (cob (hoV cf ps pb db qb gb) 68) :: R) (fun v B => v = .int .i64 0 ∧ B = pt hb (cob (hoV cf ps pb db qb gb) 68) :: R) := by
  refine spec_body Tryz.func20 Tryz.ntmps20 rfl rfl ?_
  refine x_seq (x_region (s_val rfl (v_assign rfl) (x_nil (n_then (x_seq (x_seq (x_region (s_val rfl (v_move rfl) (s_do rfl (d_call1 Tryz.call36 rfl (hoNone_spec W0 _ hb cf ps pb db qb gb)) ?_)))))))))
  rintro _ B_ ⟨rfl, hB_⟩
  obtain rfl := hB_.symm
  refine s_val rfl (v_move rfl) ?_
  refine s_or rfl rfl rfl ?_ ?_
  · intro g1_3
    exact absurd g1_3 (by decide)
  · intro g1_3
    refine s_val rfl (v_move rfl) (s_yes rfl rfl (s_val rfl (v_eql_ptr_nil Tryz.underlying50 rfl rfl) (s_val rfl (v_pick_f rfl rfl) (x_nil (n_then ?_)))))
    refine x_if rfl ?_ ?_
    · intro c1
      refine x_seq (x_region (s_val rfl (v_assign rfl) (x_nil (n_then (x_ret (r_then (x_done (.inl rfl) (.cons (r_tmp rfl) .nil) ?_)))))))
      exact ⟨_, ⟨rfl, rfl⟩, inferInstance⟩
    · intro c1
      exact absurd rfl c1
theorem hoNewTwo_spec (W0 : World) (b1 b2 b3 b4 b5 : Nat) (R : List HP) :
    Spec Tryz.prog W0 19 [.agg (cfgV (twC b1 b2 b3 b4 b5)).toArray, .slice none 0 0] (twH b1 b2 b3 b4 b5 R)
      (fun v B => ∃ hb ps pb db qb gb, v = .tuple #[pV hb, .int .i64 0] ∧ B = pt hb (cob (hoV (twC b1 b2 b3 b4 b5) ps pb db qb gb) 68) :: R) := by
  refine fun w hO => (spec_rebase (fun W hW => hoNew_spec W [] (twC b1 b2 b3 b4 b5) (tw_ok hW) (tw_rt b1 b2 b3 b4 b5)) w hO).mono ?_
  rintro e w' ⟨v, B, rfl, ⟨C, ⟨hb, ps, pb, db, qb, gb, x, rfl, rfl⟩, rfl⟩, hO'⟩
  refine ⟨_, _, rfl, ⟨hb, ps, pb, db, qb, gb, rfl, rfl⟩, hO'.ent ?_⟩
  exact (inferInstance : Ent (pt hb (cob (hoV (twC b1 b2 b3 b4 b5) ps pb db qb gb) 68) :: stoH ps (List.replicate (nFr (twC b1 b2 b3 b4 b5)) zeros) :: poH pb (ps, poI (twC b1 b2 b3 b4 b5) (nFr (twC b1 b2 b3 b4 b5))) :: dkH db x :: portsH qb (newP (twC b1 b2 b3 b4 b5).pl) :: pt gb (gtO (twC b1 b2 b3 b4 b5).cats (twC b1 b2 b3 b4 b5).gate (twC b1 b2 b3 b4 b5).quota) :: twH b1 b2 b3 b4 b5 R) (pt hb (cob (hoV (twC b1 b2 b3 b4 b5) ps pb db qb gb) 68) :: R))
theorem HcallZero_walk (W0 : World) (i : Int) : Spec Tryz.prog W0 5 [.int .i64 i] [] (fun v B => v = .bool true ∧ B = []) := by
  refine spec_body Tryz.func5 Tryz.ntmps5 rfl rfl ?_
  refine x_seq (x_region (s_val rfl (v_assign rfl) (x_nil (n_then (x_seq (x_region (s_val rfl (v_assign rfl) (x_nil (n_then (x_seq (x_region (s_do rfl (d_allocA Tryz.zeroValue68) ?_))))))))))))
  rintro _ _ ⟨bu, rfl, rfl⟩
  refine x_nil (n_then (x_seq (x_region (s_do rfl (d_call Tryz.call18 rfl (lwTwo_spec W0 _)) ?_))))
  rintro _ B_ ⟨b1, b2, b3, b4, b5, rfl, hB_⟩
  obtain rfl := hB_.symm
  refine s_do rfl (d_call Tryz.call12 rfl (madeTwo_spec W0 b1 b2 b3 b4 b5 _)) ?_
  rintro _ B_ ⟨hb, ps, pb, db, qb, gb, wb, a, cap, a2, n2, cap2, g0, g1, rfl, hB_⟩
  obtain rfl := hB_.symm
  refine s_val rfl (v_move rfl) (s_val rfl (v_extract rfl rfl) (s_val rfl (v_extract rfl rfl) (s_val rfl (v_extract rfl rfl) (s_val rfl (v_extract rfl rfl) (s_val rfl (v_extract rfl rfl) (s_val rfl (v_assign rfl) (s_val rfl (v_assign rfl) (s_val rfl (v_assign rfl) (s_val rfl (v_assign rfl) (s_val rfl (v_assign rfl) (x_nil (n_then (x_seq (x_seq (x_region (s_val rfl (v_move rfl) (s_val rfl (v_not rfl) (s_val rfl (v_move rfl) ?_))))))))))))))))))
  refine s_or rfl rfl rfl ?_ ?_
  · intro g4_3
    exact absurd g4_3 (by decide)
  · intro g4_3
    refine s_val rfl (v_move rfl) (s_yes rfl rfl (s_val rfl (v_len_slice Tryz.underlying31 rfl) (s_yes rfl rfl (s_val rfl (v_neq rfl rfl) (s_val rfl (v_pick_f rfl rfl) (x_nil (n_then ?_)))))))
    refine x_if rfl ?_ ?_
    · intro c4
      first | exact absurd c4 (by decide) | (simp at c4)
    · intro c4
      refine x_skip (n_then (x_seq (x_region (s_val rfl (v_move rfl) (s_val rfl (v_move rfl) (s_val rfl (v_move rfl) (s_do rfl (d_call Tryz.call14 rfl (zhDo_spec W0 _ none (.inl rfl) a [g0, g1].length cap i)) ?_)))))))
      rintro _ B_ ⟨rfl, hB_⟩
      obtain rfl := hB_.symm
      refine s_val rfl (v_move rfl) (s_val rfl (v_extract rfl rfl) (s_val rfl (v_extract rfl rfl) (s_val rfl (v_assign rfl) (s_val rfl (v_assign rfl) (x_nil (n_then (x_seq (x_region (s_val rfl (v_move rfl) (s_val rfl (v_move rfl) (s_do rfl (d_call Tryz.call14 rfl (zhDo_spec W0 _ (some ⟨bu, 0, none⟩) (.inr ⟨bu, rfl, inferInstance⟩) a [g0, g1].length cap i)) ?_)))))))))))
      rintro _ B_ ⟨rfl, hB_⟩
      obtain rfl := hB_.symm
      refine s_val rfl (v_move rfl) (s_val rfl (v_extract rfl rfl) (s_val rfl (v_extract rfl rfl) (s_val rfl (v_assign rfl) (s_val rfl (v_assign rfl) (x_nil (n_then (x_seq (x_region (s_do rfl (d_call Tryz.call18 rfl (lwTwo_spec W0 _)) ?_)))))))))
      rintro _ B_ ⟨d1, d2, d3, d4, d5, rfl, hB_⟩
      obtain rfl := hB_.symm
      refine s_do rfl (d_call Tryz.call19 rfl (hoNewTwo_spec W0 d1 d2 d3 d4 d5 _)) ?_
      rintro _ B_ ⟨kb, ps2, pb2, db2, qb2, gb2, rfl, hB_⟩
      obtain rfl := hB_.symm
      refine s_val rfl (v_move rfl) (s_val rfl (v_extract rfl rfl) (s_val rfl (v_extract rfl rfl) (s_val rfl (v_assign rfl) (s_val rfl (v_assign rfl) (x_nil (n_then (x_seq (x_region (s_val rfl (v_move rfl) (s_val rfl (v_move rfl) (s_do rfl (d_call1 Tryz.call14 rfl (hoDoNil_spec W0 _ kb (twC d1 d2 d3 d4 d5) ps2 pb2 db2 qb2 gb2 i)) ?_)))))))))))
      rintro _ B_ ⟨rfl, hB_⟩
      obtain rfl := hB_.symm
      refine s_val rfl (v_move rfl) (s_val rfl (v_extract rfl rfl) (s_val rfl (v_extract rfl rfl) (s_val rfl (v_assign rfl) (s_val rfl (v_assign rfl) (x_nil (n_then (x_seq ?_)))))))
      refine run_tk (r := osl 50 1) (b := .slice a [g0, g1].length cap) (run_osl (fun h1 h2 => by cases h2) fun lg nn c2 sp h1 h2 h3 h4 h5 => ?_)
      cases h1
      refine x_draw [(lg, 0, _)] 74 mixed rfl (sc_own sc_end) (fun hS => ?_)
      refine d_take 0 rfl rfl (by kernel_rfl) (by kernel_rfl) (by kernel_rfl) rfl hS (v_move rfl) ?_
      refine d_take 1 rfl rfl (by kernel_rfl) (by kernel_rfl) (by kernel_rfl) rfl hS (v_eql rfl rfl) ?_
      refine d_take 2 rfl rfl (by kernel_rfl) (by kernel_rfl) (by kernel_rfl) rfl hS (v_move rfl) ?_
      refine x_split (t := 59) rfl ?_ ?_
      · intro g10_3
        refine d_take 3 rfl rfl (by kernel_rfl) (by kernel_rfl) (by kernel_rfl) rfl hS (v_move rfl) ?_
        refine d_take 4 rfl rfl (by kernel_rfl) (by kernel_rfl) (by kernel_rfl) rfl hS (v_move rfl) ?_
        refine d_take 5 rfl rfl (by kernel_rfl) (by kernel_rfl) (by kernel_rfl) rfl hS (v_eql rfl rfl) ?_
        refine d_take 6 rfl rfl (by kernel_rfl) (by kernel_rfl) (by kernel_rfl) rfl hS (v_pick_t rfl rfl) ?_
        refine d_take 7 rfl rfl (by kernel_rfl) (by kernel_rfl) (by kernel_rfl) rfl hS (v_move rfl) ?_
        refine x_split (t := 64) rfl ?_ ?_
        · intro g10_8
          refine d_take 8 rfl rfl (by kernel_rfl) (by kernel_rfl) (by kernel_rfl) rfl hS (v_move rfl) ?_
          refine d_take 9 rfl rfl (by kernel_rfl) (by kernel_rfl) (by kernel_rfl) rfl hS (v_move rfl) ?_
          refine d_take 10 rfl rfl (by kernel_rfl) (by kernel_rfl) (by kernel_rfl) rfl hS (v_eql rfl rfl) ?_
          refine d_take 11 rfl rfl (by kernel_rfl) (by kernel_rfl) (by kernel_rfl) rfl hS (v_pick_t rfl rfl) ?_
          refine d_take 12 rfl rfl (by kernel_rfl) (by kernel_rfl) (by kernel_rfl) rfl hS (v_move rfl) ?_
          refine x_split (t := 69) rfl ?_ ?_
          · intro g10_13
            refine d_take 13 rfl rfl (by kernel_rfl) (by kernel_rfl) (by kernel_rfl) rfl hS (v_move rfl) ?_
            refine d_take 14 rfl rfl (by kernel_rfl) (by kernel_rfl) (by kernel_rfl) rfl hS (v_move rfl) ?_
            refine d_take 15 rfl rfl (by kernel_rfl) (by kernel_rfl) (by kernel_rfl) rfl hS (v_add rfl rfl (by first | exact w64 (by omega) | rfl)) ?_
            refine d_take 16 rfl rfl (by kernel_rfl) (by kernel_rfl) (by kernel_rfl) rfl hS (v_move rfl) ?_
            refine d_take 17 rfl rfl (by kernel_rfl) (by kernel_rfl) (by kernel_rfl) rfl hS (v_add rfl rfl (by first | exact w64 (by omega) | rfl)) ?_
            refine d_take 18 rfl rfl (by kernel_rfl) (by kernel_rfl) (by kernel_rfl) rfl hS (v_eql rfl rfl) ?_
            refine d_take 19 rfl rfl (by kernel_rfl) (by kernel_rfl) (by kernel_rfl) rfl hS (v_pick_t rfl rfl) ?_
            refine d_take 20 rfl rfl (by kernel_rfl) (by kernel_rfl) (by kernel_rfl) rfl hS (v_move rfl) ?_
            refine x_split (t := 77) rfl ?_ ?_
            · intro g10_21
              refine d_take 21 rfl rfl (by kernel_rfl) (by kernel_rfl) (by kernel_rfl) rfl hS (v_move rfl) ?_
              refine d_take 22 rfl rfl (by kernel_rfl) (by kernel_rfl) (by kernel_rfl) rfl hS (v_move rfl) ?_
              refine d_take 23 rfl rfl (by kernel_rfl) (by kernel_rfl) (by kernel_rfl) rfl hS (v_idx Tryz.underlying31 Tryz.sizeOf50 rfl rfl (i := 0) rfl (show 0 < 2 by decide) (by first | exact Nat.zero_add _ | rfl)) ?_
              refine d_take 24 rfl rfl (by kernel_rfl) (by kernel_rfl) (by kernel_rfl) rfl hS (v_load Tryz.isAgg50 rfl (cell_sc0 (k := 0) rfl rfl)) ?_
              refine d_take 26 rfl rfl (by kernel_rfl) (by kernel_rfl) (by kernel_rfl) rfl hS (v_move rfl) ?_
              refine d_take 27 rfl rfl (by kernel_rfl) (by kernel_rfl) (by kernel_rfl) rfl hS (v_idx Tryz.underlying31 Tryz.sizeOf50 rfl rfl (i := 0) rfl (show 0 < 2 by decide) (by first | exact Nat.zero_add _ | rfl)) ?_
              refine d_take 28 rfl rfl (by kernel_rfl) (by kernel_rfl) (by kernel_rfl) rfl hS (v_load Tryz.isAgg50 rfl (cell_sc0 (k := 0) rfl rfl)) ?_
              refine d_take 31 rfl rfl (by kernel_rfl) (by kernel_rfl) (by kernel_rfl) rfl hS (v_move rfl) ?_
              refine d_one 25 (by kernel_rfl) rfl rfl (d_call Tryz.call20 rfl (zhRx_spec W0 _ none (.inl rfl) (some ⟨g0, 0, none⟩) 0)) rfl ?_; clear hS
              rintro _ B_ ⟨rfl, hB_⟩
              obtain rfl := hB_.symm
              refine ⟨(sc_own sc_end), fun hS => ?_⟩
              refine d_one 29 (by kernel_rfl) rfl rfl (d_call Tryz.call20 rfl (zhRx_spec W0 _ (some ⟨bu, 0, none⟩) (.inr ⟨bu, rfl, inferInstance⟩) (some ⟨g0, 0, none⟩) 0)) rfl ?_; clear hS
              rintro _ B_ ⟨rfl, hB_⟩
              obtain rfl := hB_.symm
              refine ⟨(sc_own sc_end), fun hS => ?_⟩
              refine d_take 30 rfl rfl (by kernel_rfl) (by kernel_rfl) (by kernel_rfl) rfl hS (v_add rfl rfl (by first | exact w64 (by omega) | rfl)) ?_
              refine d_one 32 (by kernel_rfl) rfl rfl (d_call1 Tryz.call20 rfl (hoRxNil_spec W0 _ kb (twC d1 d2 d3 d4 d5) ps2 pb2 db2 qb2 gb2 0)) rfl ?_; clear hS
              rintro _ B_ ⟨rfl, hB_⟩
              obtain rfl := hB_.symm
              refine ⟨(sc_own sc_end), fun hS => ?_⟩
              refine d_take 33 rfl rfl (by kernel_rfl) (by kernel_rfl) (by kernel_rfl) rfl hS (v_add rfl rfl (by first | exact w64 (by omega) | rfl)) ?_
              refine d_take 34 rfl rfl (by kernel_rfl) (by kernel_rfl) (by kernel_rfl) rfl hS (v_eql rfl rfl) ?_
              refine d_take 35 rfl rfl (by kernel_rfl) (by kernel_rfl) (by kernel_rfl) rfl hS (v_pick_t rfl rfl) ?_
              refine d_take 36 rfl rfl (by kernel_rfl) (by kernel_rfl) (by kernel_rfl) rfl hS (v_move rfl) ?_
              refine x_split (t := 93) rfl ?_ ?_
              · intro g10_37
                refine d_take 37 rfl rfl (by kernel_rfl) (by kernel_rfl) (by kernel_rfl) rfl hS (v_move rfl) ?_
                refine d_one 38 (by kernel_rfl) rfl rfl (d_call Tryz.call21 rfl (zhStore_spec W0 _ none (.inl rfl))) rfl ?_; clear hS
                rintro _ B_ ⟨rfl, hB_⟩
                obtain rfl := hB_.symm
                refine ⟨(sc_own sc_end), fun hS => ?_⟩
                refine d_take 39 rfl rfl (by kernel_rfl) (by kernel_rfl) (by kernel_rfl) rfl hS (v_eql_ptr_nil Tryz.underlying63 rfl rfl) ?_
                refine d_take 40 rfl rfl (by kernel_rfl) (by kernel_rfl) (by kernel_rfl) rfl hS (v_pick_t rfl rfl) ?_
                refine d_take 41 rfl rfl (by kernel_rfl) (by kernel_rfl) (by kernel_rfl) rfl hS (v_move rfl) ?_
                refine x_split (t := 98) rfl ?_ ?_
                · intro g10_42
                  refine d_one 42 (by kernel_rfl) rfl rfl (d_call Tryz.call22 rfl (zhPool_spec W0 _ (some ⟨bu, 0, none⟩) (.inr ⟨bu, rfl, inferInstance⟩))) rfl ?_; clear hS
                  rintro _ B_ ⟨rfl, hB_⟩
                  obtain rfl := hB_.symm
                  refine ⟨(sc_own sc_end), fun hS => ?_⟩
                  refine d_take 43 rfl rfl (by kernel_rfl) (by kernel_rfl) (by kernel_rfl) rfl hS (v_eql_ptr_nil Tryz.underlying64 rfl rfl) ?_
                  refine d_take 44 rfl rfl (by kernel_rfl) (by kernel_rfl) (by kernel_rfl) rfl hS (v_pick_t rfl rfl) ?_
                  refine d_take 45 rfl rfl (by kernel_rfl) (by kernel_rfl) (by kernel_rfl) rfl hS (v_move rfl) ?_
                  refine x_split (t := 102) rfl ?_ ?_
                  · intro g10_46
                    refine d_take 46 rfl rfl (by kernel_rfl) (by kernel_rfl) (by kernel_rfl) rfl hS (v_move rfl) ?_
                    refine d_one 47 (by kernel_rfl) rfl rfl (d_call Tryz.call23 rfl (zhDisk_spec W0 _ none (.inl rfl))) rfl ?_; clear hS
                    rintro _ B_ ⟨rfl, hB_⟩
                    obtain rfl := hB_.symm
                    refine ⟨(sc_own sc_end), fun hS => ?_⟩
                    refine d_take 48 rfl rfl (by kernel_rfl) (by kernel_rfl) (by kernel_rfl) rfl hS (v_eql_ptr_nil Tryz.underlying65 rfl rfl) ?_
                    refine d_take 49 rfl rfl (by kernel_rfl) (by kernel_rfl) (by kernel_rfl) rfl hS (v_pick_t rfl rfl) ?_
                    refine d_take 50 rfl rfl (by kernel_rfl) (by kernel_rfl) (by kernel_rfl) rfl hS (v_move rfl) ?_
                    refine x_split (t := 107) rfl ?_ ?_
                    · intro g10_51
                      refine d_one 51 (by kernel_rfl) rfl rfl (d_call Tryz.call24 rfl (zhPorts_spec W0 _ (some ⟨bu, 0, none⟩) (.inr ⟨bu, rfl, inferInstance⟩))) rfl ?_; clear hS
                      rintro _ B_ ⟨rfl, hB_⟩
                      obtain rfl := hB_.symm
                      refine ⟨(sc_own sc_end), fun hS => ?_⟩
                      refine d_take 52 rfl rfl (by kernel_rfl) (by kernel_rfl) (by kernel_rfl) rfl hS (v_eql_ptr_nil Tryz.underlying66 rfl rfl) ?_
                      refine d_take 53 rfl rfl (by kernel_rfl) (by kernel_rfl) (by kernel_rfl) rfl hS (v_pick_t rfl rfl) ?_
                      refine d_take 54 rfl rfl (by kernel_rfl) (by kernel_rfl) (by kernel_rfl) rfl hS (v_move rfl) ?_
                      refine x_split (t := 111) rfl ?_ ?_
                      · intro g10_55
                        refine d_take 55 rfl rfl (by kernel_rfl) (by kernel_rfl) (by kernel_rfl) rfl hS (v_move rfl) ?_
                        refine d_one 56 (by kernel_rfl) rfl rfl (d_call Tryz.call15 rfl (zhGate_spec W0 _ none (.inl rfl))) rfl ?_; clear hS
                        rintro _ B_ ⟨rfl, hB_⟩
                        obtain rfl := hB_.symm
                        refine ⟨(sc_own sc_end), fun hS => ?_⟩
                        refine d_take 57 rfl rfl (by kernel_rfl) (by kernel_rfl) (by kernel_rfl) rfl hS (v_eql_ptr_nil Tryz.underlying55 rfl rfl) ?_
                        refine d_take 58 rfl rfl (by kernel_rfl) (by kernel_rfl) (by kernel_rfl) rfl hS (v_pick_t rfl rfl) ?_
                        refine d_take 59 rfl rfl (by kernel_rfl) (by kernel_rfl) (by kernel_rfl) rfl hS (v_move rfl) ?_
                        refine x_split (t := 116) rfl ?_ ?_
                        · intro g10_60
                          refine d_take 60 rfl rfl (by kernel_rfl) (by kernel_rfl) (by kernel_rfl) rfl hS (v_move rfl) ?_
                          refine d_one 61 (by kernel_rfl) rfl rfl (d_call Tryz.call25 rfl (zhConfig_spec W0 _ none (.inl rfl))) rfl ?_; clear hS
                          rintro _ B_ ⟨rfl, hB_⟩
                          obtain rfl := hB_.symm
                          refine ⟨(sc_own sc_end), fun hS => ?_⟩
                          refine d_take 62 rfl rfl (by kernel_rfl) (by kernel_rfl) (by kernel_rfl) rfl hS (v_fieldV rfl Tryz.underlying29 rfl Tryz.isAgg23 rfl) ?_
                          refine d_take 63 rfl rfl (by kernel_rfl) (by kernel_rfl) (by kernel_rfl) rfl hS (v_len_slice Tryz.underlying23 rfl) ?_
                          refine d_one 64 (by kernel_rfl) rfl rfl (d_call Tryz.call25 rfl (zhConfig_spec W0 _ (some ⟨bu, 0, none⟩) (.inr ⟨bu, rfl, inferInstance⟩))) rfl ?_; clear hS
                          rintro _ B_ ⟨rfl, hB_⟩
                          obtain rfl := hB_.symm
                          refine ⟨(sc_own sc_end), fun hS => ?_⟩
                          refine d_take 65 rfl rfl (by kernel_rfl) (by kernel_rfl) (by kernel_rfl) rfl hS (v_fieldV rfl Tryz.underlying29 rfl Tryz.isAgg23 rfl) ?_
                          refine d_take 66 rfl rfl (by kernel_rfl) (by kernel_rfl) (by kernel_rfl) rfl hS (v_len_slice Tryz.underlying23 rfl) ?_
                          refine d_take 67 rfl rfl (by kernel_rfl) (by kernel_rfl) (by kernel_rfl) rfl hS (v_add rfl rfl (by first | exact w64 (by omega) | rfl)) ?_
                          refine d_take 68 rfl rfl (by kernel_rfl) (by kernel_rfl) (by kernel_rfl) rfl hS (v_eql rfl rfl) ?_
                          refine d_take 69 rfl rfl (by kernel_rfl) (by kernel_rfl) (by kernel_rfl) rfl hS (v_pick_t rfl rfl) ?_
                          refine d_take 70 rfl rfl (by kernel_rfl) (by kernel_rfl) (by kernel_rfl) rfl hS (v_move rfl) ?_
                          refine x_split (t := 127) rfl ?_ ?_
                          · intro g10_71
                            refine d_one 71 (by kernel_rfl) rfl rfl (d_call Tryz.call11 rfl (awake37_spec W0 _)) rfl ?_; clear hS
                            rintro _ B_ ⟨rfl, hB_⟩
                            obtain rfl := hB_.symm
                            refine ⟨(sc_own sc_end), fun hS => ?_⟩
                            refine d_take 72 rfl rfl (by kernel_rfl) (by kernel_rfl) (by kernel_rfl) rfl hS (v_pick_t rfl rfl) ?_
                            refine d_take 73 rfl rfl (by kernel_rfl) (by kernel_rfl) (by kernel_rfl) rfl hS (v_assign rfl) ?_
                            refine d_done (by kernel_rfl) ?_; clear hS
                            refine n_then (x_ret (x_done (.inl rfl) (.cons (r_tmp rfl) .nil) ?_))
                            exact ⟨_, ⟨rfl, rfl⟩, inferInstance⟩
                          · intro g10_71
                            exact absurd (by decide) g10_71
                        · intro g10_60
                          exact absurd rfl g10_60
                      · intro g10_55
                        exact absurd rfl g10_55
                    · intro g10_51
                      exact absurd rfl g10_51
                  · intro g10_46
                    exact absurd rfl g10_46
                · intro g10_42
                  exact absurd rfl g10_42
              · intro g10_37
                exact absurd (by decide) g10_37
            · intro g10_21
              exact absurd (by decide) g10_21
          · intro g10_13
            exact absurd (by decide) g10_13
        · intro g10_8
          exact absurd (by decide) g10_8
      · intro g10_3
        exact absurd (by decide) g10_3
end Go.Proofs.YtnidndllknffgaaGreat
namespace Go.Proofs.YtnidndllknffgaaGreat
open Go.ChangeShapes Go.WideShapes Go.ChangeAt Go.RowKit
set_option linter.unusedSimpArgs false
set_option linter.unusedVariables false
theorem own : ownKnob Tryz.prog.godebug = none := by kernel_rfl
theorem laidOut : laidOutB Tryz.prog = true := by kernel_rfl
variable {W : World} {v : Value}
end Go.Proofs.YtnidndllknffgaaGreat
