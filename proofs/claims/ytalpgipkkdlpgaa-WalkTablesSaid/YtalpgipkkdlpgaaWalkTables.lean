/-
  The law WalkTables holds: a walk's mapping is what its tables' words say; it reads own pages alone, and changes nothing. Conditions: none.
-/
import Derived.Test.YtalpgipkkdlpgaaRows
import Derived.Test.YtalpgipkkdlpgaaWalkTabP
import Derived.Test.YtalpgipkkdlpgaaFrameWalk
namespace Go.Proofs.Ytalpgipkkdlpgaa
open Go.ChangeShapes Go.WideShapes Go.ChangeAt Go.RowKit
set_option linter.unusedSimpArgs false
set_option linter.unusedVariables false
set_option maxRecDepth 20000

theorem WalkTables_walk (W0 : World) (gone : Nat) (hg : gone < 65536) (al : Option Addr) (cl : Nat) (ts : List Pt17) (root : Int) (va : Nat) (hva : va < 4294967296) (hts : SlB W0 al 2 pt17V ts) (htok : ∀ t ∈ ts, Pt17Ok t) (hl : ts.length < 9223372036854775808) :
    Spec Try.prog W0 5 [.int .u16 gone, .slice al ts.length cl, .int .i64 root, .int .u32 va] [] (fun v B => v = .bool true ∧ B = []) := by
  have hP := pg17_ok gone 10
  have hO := pg17_odd gone 10 (by decide)
  obtain ⟨hF, _, hd⟩ := mk17_ok gone ts
  obtain ⟨pg, hpg⟩ : ∃ x, pg17 gone 10 = x := ⟨_, rfl⟩
  obtain ⟨fr, hfr⟩ : ∃ x, (mk17 gone ts).1 = x := ⟨_, rfl⟩
  obtain ⟨s, hs⟩ : ∃ s, wkR fr pg root va = s := ⟨_, rfl⟩
  have hc := wkR_cases fr pg root va
  rw [hs] at hc
  rw [hpg] at hP hO
  rw [hfr] at hF
  rcases hc with ⟨k1, k2, k3, k4, k5, k6⟩ | ⟨k1, hv, hb, k2, k3, k4, k5, k6⟩ | ⟨w1, a, w2, hw1, ha, hw2, hv, hb, hz, hla, hse⟩
  · skip
    refine spec_body Try.func5 Try.ntmps5 rfl rfl ?_
    refine x_seq ?_
    refine x_region ?_
    refine s_val rfl (v_assign rfl) ?_
    refine x_nil ?_
    refine n_then ?_
    refine x_seq ?_
    refine x_region ?_
    refine s_val rfl (v_move rfl) ?_
    refine s_val rfl (v_move rfl) ?_
    refine s_do rfl (d_call Try.call8 rfl (made17_spec W0 _ gone hg _ _ ts (sla_base hts) htok hl)) ?_
    rintro _ B_ ⟨pv, ps, pm, qv, qs, qm, rfl, hB_⟩
    obtain rfl := hB_.symm
    rw [hfr, hpg]
    generalize (mk17 gone ts).2 = dd at hd
    refine s_val rfl (v_move rfl) ?_
    refine s_val rfl (v_extract rfl rfl) ?_
    refine s_val rfl (v_extract rfl rfl) ?_
    refine s_val rfl (v_assign rfl) ?_
    refine s_val rfl (v_assign rfl) ?_
    refine x_nil ?_
    refine n_then ?_
    refine x_seq ?_
    refine x_seq ?_
    refine x_region ?_
    refine s_val rfl (v_move rfl) ?_
    refine s_val rfl (v_eql_ptr_nil Try.underlying25 rfl rfl) ?_
    refine x_nil ?_
    refine n_then ?_
    refine x_if rfl ?_ ?_
    · intro c2
      cases c2
    · intro c2
      refine x_skip ?_
      refine n_then ?_
      refine x_seq ?_
      refine x_region ?_
      refine s_val rfl (v_move rfl) ?_
      refine s_do rfl (d_call1 Try.call21 rfl (viDirty_spec W0 _ pv ps pm dd hd)) ?_
      rintro _ B_ ⟨a1, k_1, rfl, hB_⟩
      obtain rfl := hB_.symm
      refine x_nil ?_
      refine n_then ?_
      refine x_seq ?_
      refine x_region ?_
      refine s_val rfl (v_move rfl) ?_
      refine s_val rfl (v_move rfl) ?_
      refine s_val rfl (v_move rfl) ?_
      refine s_do rfl (d_call3 Try.call22 rfl (wkWalk_spec W0 _ pv ps pm 0 fr pg hP hF _ va hva)) ?_
      rintro _ B_ ⟨rfl, hB_⟩
      obtain rfl := hB_.symm
      rw [hs]
      refine s_do rfl (d_allocA Try.zeroValue63) ?_
      rintro _ _ ⟨bs, rfl, rfl⟩
      refine s_do0 (d_storeAll Try.sizeOf63 rfl rfl rfl rfl rfl) ?_
      rintro _ _ rfl
      refine x_nil ?_
      refine n_then ?_
      refine x_seq ?_
      refine x_seq ?_
      refine x_region ?_
      refine s_val rfl (v_move rfl) ?_
      refine s_do rfl (d_call1 Try.call21 rfl (viDirty_spec W0 _ pv ps pm 0 (by decide))) ?_
      rintro _ B_ ⟨a2, k_2, rfl, hB_⟩
      obtain rfl := hB_.symm
      rw [drL_zero]
      refine s_val rfl (v_len_slice Try.underlying58 rfl) ?_
      refine s_val rfl (v_neq rfl rfl) ?_
      refine s_val rfl (v_move rfl) ?_
      refine s_or rfl rfl rfl ?_ ?_
      · intro g6_5
        exact absurd rfl g6_5
      · intro g6_5
        refine s_val rfl (v_fieldAddr rfl Try.underlying63 rfl Try.sizeOf3 rfl (by first | exact Nat.zero_add _ | rfl)) ?_
        refine s_yes rfl rfl ?_
        refine s_val rfl (v_load Try.isAgg3 rfl (cell_own rfl)) ?_
        refine s_yes rfl rfl ?_
        refine s_val rfl (v_geq rfl rfl) ?_
        refine s_val rfl (v_pick_f rfl rfl) ?_
        refine s_val rfl (v_move rfl) ?_
        refine s_or rfl rfl rfl ?_ ?_
        · intro g6_10
          omega
        · intro g6_10
          refine s_val rfl (v_fieldAddr rfl Try.underlying63 rfl Try.sizeOf3 rfl (by first | exact Nat.zero_add _ | rfl)) ?_
          refine s_yes rfl rfl ?_
          refine s_val rfl (v_load Try.isAgg3 rfl (cell_own rfl)) ?_
          refine s_yes rfl rfl ?_
          refine s_val rfl (v_geq rfl rfl) ?_
          refine s_val rfl (v_pick_f rfl rfl) ?_
          refine s_val rfl (v_move rfl) ?_
          refine s_or rfl rfl rfl ?_ ?_
          · intro g6_15
            omega
          · intro g6_15
            refine s_val rfl (v_fieldAddr rfl Try.underlying63 rfl Try.sizeOf3 rfl (by first | exact Nat.zero_add _ | rfl)) ?_
            refine s_yes rfl rfl ?_
            refine s_val rfl (v_load Try.isAgg3 rfl (cell_own rfl)) ?_
            refine s_yes rfl rfl ?_
            refine s_val rfl (v_geq rfl rfl) ?_
            refine s_yes rfl rfl ?_
            refine s_val rfl (v_move rfl) ?_
            refine s_and rfl rfl rfl ?_ ?_
            · intro g6_19
              omega
            · intro g6_19
              refine s_no rfl rfl rfl rfl ?_
              refine s_no rfl rfl rfl rfl ?_
              refine s_yes rfl rfl ?_
              refine s_val rfl (v_pick_f rfl rfl) ?_
              refine s_val rfl (v_pick_f rfl rfl) ?_
              refine x_nil ?_
              refine n_then ?_
              refine x_iff rfl ?_
              refine x_skip ?_
              refine n_then ?_
              refine x_seq ?_
              refine x_seq ?_
              refine x_region ?_
              refine s_val rfl (v_fieldAddr rfl Try.underlying63 rfl Try.sizeOf3 rfl (by first | exact Nat.zero_add _ | rfl)) ?_
              refine s_val rfl (v_load Try.isAgg3 rfl (cell_own rfl)) ?_
              refine s_val rfl (v_geq rfl rfl) ?_
              refine s_val rfl (v_move rfl) ?_
              refine s_and rfl rfl rfl ?_ ?_
              · intro g8_4
                omega
              · intro g8_4
                refine s_no rfl rfl rfl rfl ?_
                refine s_no rfl rfl rfl rfl ?_
                refine s_no rfl rfl rfl rfl ?_
                refine s_no rfl rfl rfl rfl ?_
                refine s_nou rfl rfl rfl ?_
                refine s_nou rfl rfl rfl ?_
                refine s_no rfl rfl rfl rfl ?_
                refine s_no rfl rfl rfl rfl ?_
                refine s_nou rfl rfl rfl ?_
                refine s_nou rfl rfl rfl ?_
                refine s_nou rfl rfl rfl ?_
                refine s_nou rfl rfl rfl ?_
                refine s_nou rfl rfl rfl ?_
                refine s_nou rfl rfl rfl ?_
                refine s_nou rfl rfl rfl ?_
                refine s_no rfl rfl rfl rfl ?_
                refine s_val rfl (v_pick_f rfl rfl) ?_
                refine x_nil ?_
                refine n_then ?_
                refine x_iff rfl ?_
                refine x_skip ?_
                refine n_then ?_
                refine x_seq ?_
                refine x_seq ?_
                refine x_region ?_
                refine s_val rfl (v_fieldAddr rfl Try.underlying63 rfl Try.sizeOf3 rfl (by first | exact Nat.zero_add _ | rfl)) ?_
                refine s_val rfl (v_load Try.isAgg3 rfl (cell_own rfl)) ?_
                refine s_val rfl (v_lss rfl rfl) ?_
                refine x_nil ?_
                refine n_then ?_
                refine x_if rfl ?_ ?_
                · intro c10
                  refine x_seq ?_
                  refine x_region ?_
                  refine s_val rfl (v_fieldAddr rfl Try.underlying63 rfl Try.sizeOf3 rfl (by first | exact Nat.zero_add _ | rfl)) ?_
                  refine s_val rfl (v_load Try.isAgg3 rfl (cell_own rfl)) ?_
                  refine s_val rfl (v_neq rfl rfl) ?_
                  refine s_val rfl (v_move rfl) ?_
                  refine s_and rfl rfl rfl ?_ ?_
                  · intro g11_4
                    refine s_val rfl (v_fieldAddr rfl Try.underlying63 rfl Try.sizeOf61 rfl (by first | exact Nat.zero_add _ | rfl)) ?_
                    refine s_yes rfl rfl ?_
                    refine s_val rfl (v_loadPart Try.isAgg61 Try.sizeOf61 rfl TakeL.eq rfl) ?_
                    refine s_yes rfl rfl ?_
                    refine s_val rfl (v_build Try.underlying61 Try.zeroValue61 (sized_cons Try.sizeOf4 (sized_cons Try.sizeOf3 (sized_cons Try.sizeOf3 sized_nil))) fil_nil) ?_
                    refine s_yes rfl rfl ?_
                    refine s_val rfl (v_eql_agg Try.eqGuardType61 rfl rfl (q_struct Try.underlying61 Try.stoodInHeld61 (qf_scal rfl Try.isAgg4 rfl rfl (q_bool Try.underlying4) (qf_scal rfl Try.isAgg3 rfl rfl (q_int Try.underlying3) (qf_scal rfl Try.isAgg3 rfl rfl (q_int Try.underlying3) qf_nil))))) ?_
                    refine s_val rfl (v_pick_t rfl rfl) ?_
                    refine s_val rfl (v_move rfl) ?_
                    refine s_and rfl rfl rfl ?_ ?_
                    · intro g11_10
                      refine s_do rfl (d_call Try.call10 rfl (awake17_spec W0 _)) ?_
                      rintro _ B_ ⟨rfl, hB_⟩
                      obtain rfl := hB_.symm
                      refine s_val rfl (v_pick_t rfl rfl) ?_
                      refine s_val rfl (v_assign rfl) ?_
                      refine x_nil ?_
                      refine n_then ?_
                      refine x_ret ?_
                      refine r_then ?_
                      refine x_done (.inl rfl) (.cons (r_tmp rfl) .nil) ?_
                      exact ⟨_, ⟨rfl, rfl⟩, inferInstance⟩
                    · intro g11_10
                      exact absurd ⟨k4, k5, k6, rfl⟩ g11_10
                  · intro g11_4
                    exact absurd k3 g11_4
                · intro c10
                  omega
  · skip
    obtain ⟨p, rfl, hp, _⟩ := tbl_page hb
    have hown := tbl_own hb
    refine spec_body Try.func5 Try.ntmps5 rfl rfl ?_
    refine x_seq ?_
    refine x_region ?_
    refine s_val rfl (v_assign rfl) ?_
    refine x_nil ?_
    refine n_then ?_
    refine x_seq ?_
    refine x_region ?_
    refine s_val rfl (v_move rfl) ?_
    refine s_val rfl (v_move rfl) ?_
    refine s_do rfl (d_call Try.call8 rfl (made17_spec W0 _ gone hg _ _ ts (sla_base hts) htok hl)) ?_
    rintro _ B_ ⟨pv, ps, pm, qv, qs, qm, rfl, hB_⟩
    obtain rfl := hB_.symm
    rw [hfr, hpg]
    generalize (mk17 gone ts).2 = dd at hd
    refine s_val rfl (v_move rfl) ?_
    refine s_val rfl (v_extract rfl rfl) ?_
    refine s_val rfl (v_extract rfl rfl) ?_
    refine s_val rfl (v_assign rfl) ?_
    refine s_val rfl (v_assign rfl) ?_
    refine x_nil ?_
    refine n_then ?_
    refine x_seq ?_
    refine x_seq ?_
    refine x_region ?_
    refine s_val rfl (v_move rfl) ?_
    refine s_val rfl (v_eql_ptr_nil Try.underlying25 rfl rfl) ?_
    refine x_nil ?_
    refine n_then ?_
    refine x_if rfl ?_ ?_
    · intro c2
      cases c2
    · intro c2
      refine x_skip ?_
      refine n_then ?_
      refine x_seq ?_
      refine x_region ?_
      refine s_val rfl (v_move rfl) ?_
      refine s_do rfl (d_call1 Try.call21 rfl (viDirty_spec W0 _ pv ps pm dd hd)) ?_
      rintro _ B_ ⟨a1, k_1, rfl, hB_⟩
      obtain rfl := hB_.symm
      refine x_nil ?_
      refine n_then ?_
      refine x_seq ?_
      refine x_region ?_
      refine s_val rfl (v_move rfl) ?_
      refine s_val rfl (v_move rfl) ?_
      refine s_val rfl (v_move rfl) ?_
      refine s_do rfl (d_call3 Try.call22 rfl (wkWalk_spec W0 _ pv ps pm 0 fr pg hP hF _ va hva)) ?_
      rintro _ B_ ⟨rfl, hB_⟩
      obtain rfl := hB_.symm
      rw [hs]
      refine s_do rfl (d_allocA Try.zeroValue63) ?_
      rintro _ _ ⟨bs, rfl, rfl⟩
      refine s_do0 (d_storeAll Try.sizeOf63 rfl rfl rfl rfl rfl) ?_
      rintro _ _ rfl
      refine x_nil ?_
      refine n_then ?_
      refine x_seq ?_
      refine x_seq ?_
      refine x_region ?_
      refine s_val rfl (v_move rfl) ?_
      refine s_do rfl (d_call1 Try.call21 rfl (viDirty_spec W0 _ pv ps pm 0 (by decide))) ?_
      rintro _ B_ ⟨a2, k_2, rfl, hB_⟩
      obtain rfl := hB_.symm
      rw [drL_zero]
      refine s_val rfl (v_len_slice Try.underlying58 rfl) ?_
      refine s_val rfl (v_neq rfl rfl) ?_
      refine s_val rfl (v_move rfl) ?_
      refine s_or rfl rfl rfl ?_ ?_
      · intro g6_5
        exact absurd rfl g6_5
      · intro g6_5
        refine s_val rfl (v_fieldAddr rfl Try.underlying63 rfl Try.sizeOf3 rfl (by first | exact Nat.zero_add _ | rfl)) ?_
        refine s_yes rfl rfl ?_
        refine s_val rfl (v_load Try.isAgg3 rfl (cell_own rfl)) ?_
        refine s_yes rfl rfl ?_
        refine s_val rfl (v_geq rfl rfl) ?_
        refine s_val rfl (v_pick_f rfl rfl) ?_
        refine s_val rfl (v_move rfl) ?_
        refine s_or rfl rfl rfl ?_ ?_
        · intro g6_10
          omega
        · intro g6_10
          refine s_val rfl (v_fieldAddr rfl Try.underlying63 rfl Try.sizeOf3 rfl (by first | exact Nat.zero_add _ | rfl)) ?_
          refine s_yes rfl rfl ?_
          refine s_val rfl (v_load Try.isAgg3 rfl (cell_own rfl)) ?_
          refine s_yes rfl rfl ?_
          refine s_val rfl (v_geq rfl rfl) ?_
          refine s_val rfl (v_pick_f rfl rfl) ?_
          refine s_val rfl (v_move rfl) ?_
          refine s_or rfl rfl rfl ?_ ?_
          · intro g6_15
            omega
          · intro g6_15
            refine s_val rfl (v_fieldAddr rfl Try.underlying63 rfl Try.sizeOf3 rfl (by first | exact Nat.zero_add _ | rfl)) ?_
            refine s_yes rfl rfl ?_
            refine s_val rfl (v_load Try.isAgg3 rfl (cell_own rfl)) ?_
            refine s_yes rfl rfl ?_
            refine s_val rfl (v_geq rfl rfl) ?_
            refine s_yes rfl rfl ?_
            refine s_val rfl (v_move rfl) ?_
            refine s_and rfl rfl rfl ?_ ?_
            · intro g6_19
              omega
            · intro g6_19
              refine s_no rfl rfl rfl rfl ?_
              refine s_no rfl rfl rfl rfl ?_
              refine s_yes rfl rfl ?_
              refine s_val rfl (v_pick_f rfl rfl) ?_
              refine s_val rfl (v_pick_f rfl rfl) ?_
              refine x_nil ?_
              refine n_then ?_
              refine x_iff rfl ?_
              refine x_skip ?_
              refine n_then ?_
              refine x_seq ?_
              refine x_seq ?_
              refine x_region ?_
              refine s_val rfl (v_fieldAddr rfl Try.underlying63 rfl Try.sizeOf3 rfl (by first | exact Nat.zero_add _ | rfl)) ?_
              refine s_val rfl (v_load Try.isAgg3 rfl (cell_own rfl)) ?_
              refine s_val rfl (v_geq rfl rfl) ?_
              refine s_val rfl (v_move rfl) ?_
              refine s_and rfl rfl rfl ?_ ?_
              · intro g8_4
                refine s_val rfl (v_fieldAddr rfl Try.underlying63 rfl Try.sizeOf3 rfl (by first | exact Nat.zero_add _ | rfl)) ?_
                refine s_yes rfl rfl ?_
                refine s_val rfl (v_load Try.isAgg3 rfl (cell_own rfl)) ?_
                refine s_yes rfl rfl ?_
                refine s_val rfl (v_move rfl) ?_
                refine s_yes rfl rfl ?_
                refine s_val rfl (v_neq rfl rfl) ?_
                refine s_yes rfl rfl ?_
                refine s_val rfl (v_move rfl) ?_
                refine s_or rfl rfl rfl ?_ ?_
                · intro g8_9
                  first | exact absurd k1 g8_9 | exact absurd rfl g8_9 | omega
                · intro g8_9
                  refine s_val rfl (v_move rfl) ?_
                  refine s_yes rfl rfl ?_
                  refine s_val rfl (v_geq rfl rfl) ?_
                  refine s_yes rfl rfl ?_
                  refine s_val rfl (v_pick_f rfl rfl) ?_
                  refine s_yes rfl rfl ?_
                  refine s_val rfl (v_move rfl) ?_
                  refine s_or rfl rfl rfl ?_ ?_
                  · intro g8_13
                    omega
                  · intro g8_13
                    refine s_val rfl (v_move rfl) ?_
                    refine s_yes rfl rfl ?_
                    refine s_val rfl (v_fieldAddr rfl Try.underlying63 rfl Try.sizeOf3 rfl (by first | exact Nat.zero_add _ | rfl)) ?_
                    refine s_yes rfl rfl ?_
                    refine s_val rfl (v_load Try.isAgg3 rfl (cell_own rfl)) ?_
                    refine s_yes rfl rfl ?_
                    refine s_val rfl (v_mul rfl rfl (by rw [w64 (by omega)]; omega : IntKind.wrap .i64 (64 * s.root) = ((64 * p : Nat) : Int))) ?_
                    refine s_yes rfl rfl ?_
                    refine s_val rfl (v_conv Try.underlying3 Try.underlying24 rfl (w32u (by omega))) ?_
                    refine s_yes rfl rfl ?_
                    refine s_do rfl (d_call3 Try.call23 rfl (viOwn_spec W0 _ pv ps pm 0 fr pg hP (64 * p) (by omega) 64)) ?_
                    rintro _ B_ ⟨rfl, hB_⟩
                    obtain rfl := hB_.symm
                    refine s_yes rfl rfl ?_
                    refine s_val rfl (v_not rfl) ?_
                    refine s_yes rfl rfl ?_
                    refine s_val rfl (v_pick_f rfl rfl) ?_
                    refine s_val rfl (v_pick_t rfl rfl) ?_
                    refine x_nil ?_
                    refine n_then ?_
                    refine x_if rfl ?_ ?_
                    · intro c8
                      first | exact absurd hown c8 | simp_all
                    · intro c8
                      refine x_skip ?_
                      refine n_then ?_
                      refine x_seq ?_
                      refine x_seq ?_
                      refine x_region ?_
                      refine s_val rfl (v_fieldAddr rfl Try.underlying63 rfl Try.sizeOf3 rfl (by first | exact Nat.zero_add _ | rfl)) ?_
                      refine s_val rfl (v_load Try.isAgg3 rfl (cell_own rfl)) ?_
                      refine s_val rfl (v_lss rfl rfl) ?_
                      refine x_nil ?_
                      refine n_then ?_
                      refine x_if rfl ?_ ?_
                      · intro c10
                        refine x_seq ?_
                        refine x_region ?_
                        refine s_val rfl (v_fieldAddr rfl Try.underlying63 rfl Try.sizeOf3 rfl (by first | exact Nat.zero_add _ | rfl)) ?_
                        refine s_val rfl (v_load Try.isAgg3 rfl (cell_own rfl)) ?_
                        refine s_val rfl (v_neq rfl rfl) ?_
                        refine s_val rfl (v_move rfl) ?_
                        refine s_and rfl rfl rfl ?_ ?_
                        · intro g11_4
                          refine s_val rfl (v_fieldAddr rfl Try.underlying63 rfl Try.sizeOf61 rfl (by first | exact Nat.zero_add _ | rfl)) ?_
                          refine s_yes rfl rfl ?_
                          refine s_val rfl (v_loadPart Try.isAgg61 Try.sizeOf61 rfl TakeL.eq rfl) ?_
                          refine s_yes rfl rfl ?_
                          refine s_val rfl (v_build Try.underlying61 Try.zeroValue61 (sized_cons Try.sizeOf4 (sized_cons Try.sizeOf3 (sized_cons Try.sizeOf3 sized_nil))) fil_nil) ?_
                          refine s_yes rfl rfl ?_
                          refine s_val rfl (v_eql_agg Try.eqGuardType61 rfl rfl (q_struct Try.underlying61 Try.stoodInHeld61 (qf_scal rfl Try.isAgg4 rfl rfl (q_bool Try.underlying4) (qf_scal rfl Try.isAgg3 rfl rfl (q_int Try.underlying3) (qf_scal rfl Try.isAgg3 rfl rfl (q_int Try.underlying3) qf_nil))))) ?_
                          refine s_val rfl (v_pick_t rfl rfl) ?_
                          refine s_val rfl (v_move rfl) ?_
                          refine s_and rfl rfl rfl ?_ ?_
                          · intro g11_10
                            refine s_do rfl (d_call Try.call10 rfl (awake17_spec W0 _)) ?_
                            rintro _ B_ ⟨rfl, hB_⟩
                            obtain rfl := hB_.symm
                            refine s_val rfl (v_pick_t rfl rfl) ?_
                            refine s_val rfl (v_assign rfl) ?_
                            refine x_nil ?_
                            refine n_then ?_
                            refine x_ret ?_
                            refine r_then ?_
                            refine x_done (.inl rfl) (.cons (r_tmp rfl) .nil) ?_
                            exact ⟨_, ⟨rfl, rfl⟩, inferInstance⟩
                          · intro g11_10
                            exact absurd ⟨k4, k5, k6, rfl⟩ g11_10
                        · intro g11_4
                          exact absurd k3 g11_4
                      · intro c10
                        omega
              · intro g8_4
                omega
  · skip
    obtain ⟨p, rfl, hp, _⟩ := tbl_page hb
    obtain ⟨q, hq, hq8, _⟩ := tbl_page hla
    have hown := tbl_own hb
    obtain ⟨l1, l2⟩ := tbl_load hF hP hO hb
    obtain ⟨l3, l4⟩ := tbl_load hF hP hO hla
    rw [← hw1] at l2
    rw [← hw2] at l4
    have hw1l : w1 < 4294967296 := by rw [hw1]; exact tblW_lt hF _ _ _
    have hw2l : w2 < 4294967296 := by rw [hw2]; exact tblW_lt hF _ _ _
    have p1 : tblPa (p : Int) (va / 1024) = 64 * p + 4 * (va / 1024) := by unfold tblPa; omega
    have p2 : tblPa a (va / 64) = 64 * q + 4 * (va / 64 % 16) := by rw [hq]; rfl
    subst hse
    refine spec_body Try.func5 Try.ntmps5 rfl rfl ?_
    refine x_seq ?_
    refine x_region ?_
    refine s_val rfl (v_assign rfl) ?_
    refine x_nil ?_
    refine n_then ?_
    refine x_seq ?_
    refine x_region ?_
    refine s_val rfl (v_move rfl) ?_
    refine s_val rfl (v_move rfl) ?_
    refine s_do rfl (d_call Try.call8 rfl (made17_spec W0 _ gone hg _ _ ts (sla_base hts) htok hl)) ?_
    rintro _ B_ ⟨pv, ps, pm, qv, qs, qm, rfl, hB_⟩
    obtain rfl := hB_.symm
    rw [hfr, hpg]
    generalize (mk17 gone ts).2 = dd at hd
    refine s_val rfl (v_move rfl) ?_
    refine s_val rfl (v_extract rfl rfl) ?_
    refine s_val rfl (v_extract rfl rfl) ?_
    refine s_val rfl (v_assign rfl) ?_
    refine s_val rfl (v_assign rfl) ?_
    refine x_nil ?_
    refine n_then ?_
    refine x_seq ?_
    refine x_seq ?_
    refine x_region ?_
    refine s_val rfl (v_move rfl) ?_
    refine s_val rfl (v_eql_ptr_nil Try.underlying25 rfl rfl) ?_
    refine x_nil ?_
    refine n_then ?_
    refine x_if rfl ?_ ?_
    · intro c2
      cases c2
    · intro c2
      refine x_skip ?_
      refine n_then ?_
      refine x_seq ?_
      refine x_region ?_
      refine s_val rfl (v_move rfl) ?_
      refine s_do rfl (d_call1 Try.call21 rfl (viDirty_spec W0 _ pv ps pm dd hd)) ?_
      rintro _ B_ ⟨a1, k_1, rfl, hB_⟩
      obtain rfl := hB_.symm
      refine x_nil ?_
      refine n_then ?_
      refine x_seq ?_
      refine x_region ?_
      refine s_val rfl (v_move rfl) ?_
      refine s_val rfl (v_move rfl) ?_
      refine s_val rfl (v_move rfl) ?_
      refine s_do rfl (d_call3 Try.call22 rfl (wkWalk_spec W0 _ pv ps pm 0 fr pg hP hF _ va hva)) ?_
      rintro _ B_ ⟨rfl, hB_⟩
      obtain rfl := hB_.symm
      rw [hs]
      refine s_do rfl (d_allocA Try.zeroValue63) ?_
      rintro _ _ ⟨bs, rfl, rfl⟩
      refine s_do0 (d_storeAll Try.sizeOf63 rfl rfl rfl rfl rfl) ?_
      rintro _ _ rfl
      refine x_nil ?_
      refine n_then ?_
      refine x_seq ?_
      refine x_seq ?_
      refine x_region ?_
      refine s_val rfl (v_move rfl) ?_
      refine s_do rfl (d_call1 Try.call21 rfl (viDirty_spec W0 _ pv ps pm 0 (by decide))) ?_
      rintro _ B_ ⟨a2, k_2, rfl, hB_⟩
      obtain rfl := hB_.symm
      rw [drL_zero]
      refine s_val rfl (v_len_slice Try.underlying58 rfl) ?_
      refine s_val rfl (v_neq rfl rfl) ?_
      refine s_val rfl (v_move rfl) ?_
      refine s_or rfl rfl rfl ?_ ?_
      · intro g6_5
        exact absurd rfl g6_5
      · intro g6_5
        refine s_val rfl (v_fieldAddr rfl Try.underlying63 rfl Try.sizeOf3 rfl (by first | exact Nat.zero_add _ | rfl)) ?_
        refine s_yes rfl rfl ?_
        refine s_val rfl (v_load Try.isAgg3 rfl (cell_own rfl)) ?_
        refine s_yes rfl rfl ?_
        refine s_val rfl (v_geq rfl rfl) ?_
        refine s_val rfl (v_pick_f rfl rfl) ?_
        refine s_val rfl (v_move rfl) ?_
        refine s_or rfl rfl rfl ?_ ?_
        · intro g6_10
          exact absurd (show (p : Int) ≥ 8 from g6_10) (by omega)
        · intro g6_10
          refine s_val rfl (v_fieldAddr rfl Try.underlying63 rfl Try.sizeOf3 rfl (by first | exact Nat.zero_add _ | rfl)) ?_
          refine s_yes rfl rfl ?_
          refine s_val rfl (v_load Try.isAgg3 rfl (cell_own rfl)) ?_
          refine s_yes rfl rfl ?_
          refine s_val rfl (v_geq rfl rfl) ?_
          refine s_val rfl (v_pick_f rfl rfl) ?_
          refine s_val rfl (v_move rfl) ?_
          refine s_or rfl rfl rfl ?_ ?_
          · intro g6_15
            exact absurd (show a ≥ 8 from g6_15) (by omega)
          · intro g6_15
            refine s_val rfl (v_fieldAddr rfl Try.underlying63 rfl Try.sizeOf3 rfl (by first | exact Nat.zero_add _ | rfl)) ?_
            refine s_yes rfl rfl ?_
            refine s_val rfl (v_load Try.isAgg3 rfl (cell_own rfl)) ?_
            refine s_yes rfl rfl ?_
            refine s_val rfl (v_geq rfl rfl) ?_
            refine s_yes rfl rfl ?_
            refine s_val rfl (v_move rfl) ?_
            refine s_and rfl rfl rfl ?_ ?_
            · intro g6_19
              refine s_val rfl (v_fieldAddr rfl Try.underlying63 rfl Try.sizeOf3 rfl (by first | exact Nat.zero_add _ | rfl)) ?_
              refine s_yes rfl rfl ?_
              refine s_val rfl (v_load Try.isAgg3 rfl (cell_own rfl)) ?_
              refine s_yes rfl rfl ?_
              refine s_val rfl (v_lss rfl rfl) ?_
              refine s_yes rfl rfl ?_
              refine s_val rfl (v_pick_t rfl rfl) ?_
              refine s_val rfl (v_pick_f rfl rfl) ?_
              refine x_nil ?_
              refine n_then ?_
              refine x_if rfl ?_ ?_
              · intro c6
                first | cases c6 | exact absurd (show (p : Int) < 0 from c6) (by omega)
              · intro c6
                refine x_skip ?_
                refine n_then ?_
                refine x_seq ?_
                refine x_seq ?_
                refine x_region ?_
                refine s_val rfl (v_fieldAddr rfl Try.underlying63 rfl Try.sizeOf3 rfl (by first | exact Nat.zero_add _ | rfl)) ?_
                refine s_val rfl (v_load Try.isAgg3 rfl (cell_own rfl)) ?_
                refine s_val rfl (v_geq rfl rfl) ?_
                refine s_val rfl (v_move rfl) ?_
                refine s_and rfl rfl rfl ?_ ?_
                · intro g8_4
                  refine s_val rfl (v_fieldAddr rfl Try.underlying63 rfl Try.sizeOf3 rfl (by first | exact Nat.zero_add _ | rfl)) ?_
                  refine s_yes rfl rfl ?_
                  refine s_val rfl (v_load Try.isAgg3 rfl (cell_own rfl)) ?_
                  refine s_yes rfl rfl ?_
                  refine s_val rfl (v_move rfl) ?_
                  refine s_yes rfl rfl ?_
                  refine s_val rfl (v_neq rfl rfl) ?_
                  refine s_yes rfl rfl ?_
                  refine s_val rfl (v_move rfl) ?_
                  refine s_or rfl rfl rfl ?_ ?_
                  · intro g8_9
                    first | exact absurd k1 g8_9 | exact absurd rfl g8_9 | omega
                  · intro g8_9
                    refine s_val rfl (v_move rfl) ?_
                    refine s_yes rfl rfl ?_
                    refine s_val rfl (v_geq rfl rfl) ?_
                    refine s_yes rfl rfl ?_
                    refine s_val rfl (v_pick_f rfl rfl) ?_
                    refine s_yes rfl rfl ?_
                    refine s_val rfl (v_move rfl) ?_
                    refine s_or rfl rfl rfl ?_ ?_
                    · intro g8_13
                      omega
                    · intro g8_13
                      refine s_val rfl (v_move rfl) ?_
                      refine s_yes rfl rfl ?_
                      refine s_val rfl (v_fieldAddr rfl Try.underlying63 rfl Try.sizeOf3 rfl (by first | exact Nat.zero_add _ | rfl)) ?_
                      refine s_yes rfl rfl ?_
                      refine s_val rfl (v_load Try.isAgg3 rfl (cell_own rfl)) ?_
                      refine s_yes rfl rfl ?_
                      refine s_val rfl (v_mul rfl rfl (by rw [w64 (by omega)]; omega : IntKind.wrap .i64 (64 * (p : Int)) = ((64 * p : Nat) : Int))) ?_
                      refine s_yes rfl rfl ?_
                      refine s_val rfl (v_conv Try.underlying3 Try.underlying24 rfl (w32u (by omega))) ?_
                      refine s_yes rfl rfl ?_
                      refine s_do rfl (d_call3 Try.call23 rfl (viOwn_spec W0 _ pv ps pm 0 fr pg hP (64 * p) (by omega) 64)) ?_
                      rintro _ B_ ⟨rfl, hB_⟩
                      obtain rfl := hB_.symm
                      refine s_yes rfl rfl ?_
                      refine s_val rfl (v_not rfl) ?_
                      refine s_yes rfl rfl ?_
                      refine s_val rfl (v_pick_f rfl rfl) ?_
                      refine s_val rfl (v_pick_t rfl rfl) ?_
                      refine x_nil ?_
                      refine n_then ?_
                      refine x_if rfl ?_ ?_
                      · intro c8
                        first | exact absurd hown c8 | simp_all
                      · intro c8
                        refine x_skip ?_
                        refine n_then ?_
                        refine x_seq ?_
                        refine x_seq ?_
                        refine x_region ?_
                        refine s_val rfl (v_fieldAddr rfl Try.underlying63 rfl Try.sizeOf3 rfl (by first | exact Nat.zero_add _ | rfl)) ?_
                        refine s_val rfl (v_load Try.isAgg3 rfl (cell_own rfl)) ?_
                        refine s_val rfl (v_lss rfl rfl) ?_
                        refine x_nil ?_
                        refine n_then ?_
                        refine x_if rfl ?_ ?_
                        · intro c10
                          exact absurd (show a < 0 from c10) (by omega)
                        · intro c10
                          refine x_skip ?_
                          refine n_then ?_
                          refine x_seq ?_
                          refine x_region ?_
                          refine s_val rfl (v_move rfl) ?_
                          refine s_val rfl (v_fieldAddr rfl Try.underlying63 rfl Try.sizeOf3 rfl (by first | exact Nat.zero_add _ | rfl)) ?_
                          refine s_val rfl (v_load Try.isAgg3 rfl (cell_own rfl)) ?_
                          refine s_val rfl (v_mul rfl rfl (by rw [w64 (by omega)]; omega : IntKind.wrap .i64 (64 * (p : Int)) = ((64 * p : Nat) : Int))) ?_
                          refine s_val rfl (v_conv Try.underlying3 Try.underlying24 rfl (w32u (by omega))) ?_
                          refine s_val rfl (v_move rfl) ?_
                          refine s_val rfl (v_quo rfl rfl (by decide) ((congrArg (IntKind.wrap .u32) (tdivN va 1024)).trans (w32u (by omega)))) ?_
                          refine s_val rfl (v_mul rfl rfl (by rw [w32u (by omega)]; omega : IntKind.wrap .u32 (4 * ((va / 1024 : Nat) : Int)) = ((4 * (va / 1024) : Nat) : Int))) ?_
                          refine s_val rfl (v_add rfl rfl (by rw [w32u (by omega), p1]; omega : IntKind.wrap .u32 (((64 * p : Nat) : Int) + ((4 * (va / 1024) : Nat) : Int)) = ((tblPa (p : Int) (va / 1024) : Nat) : Int))) ?_
                          refine s_do rfl (d_call3 Try.call24 rfl (viLoad_spec W0 _ pv ps pm 0 fr pg hP hF (tblPa (p : Int) (va / 1024)) (by omega) 4)) ?_
                          rintro _ B_ ⟨rfl, hB_⟩
                          obtain rfl := hB_.symm
                          rw [l1, l2]
                          refine s_val rfl (v_move rfl) ?_
                          refine s_val rfl (v_extract rfl rfl) ?_
                          refine s_val rfl (v_extract rfl rfl) ?_
                          refine s_val rfl (v_assign rfl) ?_
                          refine s_val rfl (v_assign rfl) ?_
                          refine x_nil ?_
                          refine n_then ?_
                          refine x_seq ?_
                          refine x_region ?_
                          refine s_val rfl (v_move rfl) ?_
                          refine s_val rfl (v_fieldAddr rfl Try.underlying63 rfl Try.sizeOf3 rfl (by first | exact Nat.zero_add _ | rfl)) ?_
                          refine s_val rfl (v_load Try.isAgg3 rfl (cell_own rfl)) ?_
                          refine s_val rfl (v_mul rfl rfl (by rw [w64 (by omega)]; omega : IntKind.wrap .i64 (64 * a) = ((64 * q : Nat) : Int))) ?_
                          refine s_val rfl (v_conv Try.underlying3 Try.underlying24 rfl (w32u (by omega))) ?_
                          refine s_val rfl (v_move rfl) ?_
                          refine s_val rfl (v_quo rfl rfl (by decide) ((congrArg (IntKind.wrap .u32) (tdivN va 64)).trans (w32u (by omega)))) ?_
                          refine s_val rfl (v_rem rfl rfl (by decide) (tmodN (va / 64) 16)) ?_
                          refine s_val rfl (v_mul rfl rfl (by rw [w32u (by omega)]; omega : IntKind.wrap .u32 (4 * ((va / 64 % 16 : Nat) : Int)) = ((4 * (va / 64 % 16) : Nat) : Int))) ?_
                          refine s_val rfl (v_add rfl rfl (by rw [w32u (by omega), p2]; omega : IntKind.wrap .u32 (((64 * q : Nat) : Int) + ((4 * (va / 64 % 16) : Nat) : Int)) = ((tblPa a (va / 64) : Nat) : Int))) ?_
                          refine s_do rfl (d_call3 Try.call24 rfl (viLoad_spec W0 _ pv ps pm 0 fr pg hP hF (tblPa a (va / 64)) (by omega) 4)) ?_
                          rintro _ B_ ⟨rfl, hB_⟩
                          obtain rfl := hB_.symm
                          rw [l3, l4]
                          refine s_val rfl (v_move rfl) ?_
                          refine s_val rfl (v_extract rfl rfl) ?_
                          refine s_val rfl (v_extract rfl rfl) ?_
                          refine s_val rfl (v_assign rfl) ?_
                          refine s_val rfl (v_assign rfl) ?_
                          refine x_nil ?_
                          refine n_then ?_
                          refine x_seq ?_
                          refine x_region ?_
                          refine s_val rfl (v_move rfl) ?_
                          refine s_do rfl (d_call Try.call25 rfl (Table_spec W0 _ w1 hw1l)) ?_
                          rintro _ B_ ⟨rfl, hB_⟩
                          obtain rfl := hB_.symm
                          refine s_val rfl (v_move rfl) ?_
                          refine s_val rfl (v_extract rfl rfl) ?_
                          refine s_val rfl (v_extract rfl rfl) ?_
                          refine s_val rfl (v_assign rfl) ?_
                          refine s_val rfl (v_assign rfl) ?_
                          refine x_nil ?_
                          refine n_then ?_
                          refine x_seq ?_
                          refine x_region ?_
                          refine s_val rfl (v_move rfl) ?_
                          refine s_do rfl (d_call Try.call26 rfl (Leaf_spec W0 _ w2 hw2l)) ?_
                          rintro _ B_ ⟨rfl, hB_⟩
                          obtain rfl := hB_.symm
                          rw [leafV]
                          refine s_val rfl (v_move rfl) ?_
                          refine s_val rfl (v_extract rfl rfl) ?_
                          refine s_val rfl (v_extract rfl rfl) ?_
                          refine s_do rfl (d_allocA Try.zeroValue61) ?_
                          rintro _ _ ⟨bl, rfl, rfl⟩
                          refine s_do0 (d_storeAll Try.sizeOf61 rfl rfl rfl rfl rfl) ?_
                          rintro _ _ rfl
                          refine s_val rfl (v_assign rfl) ?_
                          refine x_nil ?_
                          refine n_then ?_
                          refine x_seq ?_
                          refine x_region ?_
                          refine s_val rfl (v_move rfl) ?_
                          refine s_val rfl (v_eql rfl rfl) ?_
                          refine s_val rfl (v_move rfl) ?_
                          refine s_and rfl rfl rfl ?_ ?_
                          · intro g16_3
                            refine s_val rfl (v_move rfl) ?_
                            refine s_yes rfl rfl ?_
                            refine s_val rfl (v_eql rfl rfl) ?_
                            refine s_val rfl (v_pick_t rfl rfl) ?_
                            refine s_val rfl (v_move rfl) ?_
                            refine s_and rfl rfl rfl ?_ ?_
                            · intro g16_7
                              refine s_val rfl (v_move rfl) ?_
                              refine s_yes rfl rfl ?_
                              refine s_val rfl (v_eql rfl rfl) ?_
                              refine s_val rfl (v_pick_t rfl rfl) ?_
                              refine s_val rfl (v_move rfl) ?_
                              refine s_and rfl rfl rfl ?_ ?_
                              · intro g16_11
                                refine s_val rfl (v_move rfl) ?_
                                refine s_yes rfl rfl ?_
                                refine s_val rfl (v_fieldAddr rfl Try.underlying63 rfl Try.sizeOf3 rfl (by first | exact Nat.zero_add _ | rfl)) ?_
                                refine s_yes rfl rfl ?_
                                refine s_val rfl (v_load Try.isAgg3 rfl (cell_own rfl)) ?_
                                refine s_yes rfl rfl ?_
                                refine s_val rfl (v_eql rfl rfl) ?_
                                refine s_val rfl (v_pick_t rfl rfl) ?_
                                refine s_val rfl (v_move rfl) ?_
                                refine s_and rfl rfl rfl ?_ ?_
                                · intro g16_17
                                  refine s_val rfl (v_loadAll Try.isAgg61 Try.sizeOf61 rfl rfl) ?_
                                  refine s_yes rfl rfl ?_
                                  refine s_val rfl (v_fieldAddr rfl Try.underlying63 rfl Try.sizeOf61 rfl (by first | exact Nat.zero_add _ | rfl)) ?_
                                  refine s_yes rfl rfl ?_
                                  refine s_val rfl (v_loadPart Try.isAgg61 Try.sizeOf61 rfl TakeL.eq rfl) ?_
                                  refine s_yes rfl rfl ?_
                                  refine s_val rfl (v_eql_agg Try.eqGuardType61 rfl rfl (q_struct Try.underlying61 Try.stoodInHeld61 (qf_scal rfl Try.isAgg4 rfl rfl (q_bool Try.underlying4) (qf_scal rfl Try.isAgg3 rfl rfl (q_int Try.underlying3) (qf_scal rfl Try.isAgg3 rfl rfl (q_int Try.underlying3) qf_nil))))) ?_
                                  refine s_val rfl (v_pick_t rfl rfl) ?_
                                  refine s_val rfl (v_move rfl) ?_
                                  refine s_and rfl rfl rfl ?_ ?_
                                  · intro g16_23
                                    refine s_val rfl (v_move rfl) ?_
                                    refine s_yes rfl rfl ?_
                                    refine s_val rfl (v_fieldAddr rfl Try.underlying63 rfl Try.sizeOf3 rfl (by first | exact Nat.zero_add _ | rfl)) ?_
                                    refine s_yes rfl rfl ?_
                                    refine s_val rfl (v_load Try.isAgg3 rfl (cell_own rfl)) ?_
                                    refine s_yes rfl rfl ?_
                                    refine s_val rfl (v_eql rfl rfl) ?_
                                    refine s_val rfl (v_pick_t rfl rfl) ?_
                                    refine s_val rfl (v_move rfl) ?_
                                    refine s_and rfl rfl rfl ?_ ?_
                                    · intro g16_29
                                      refine s_do rfl (d_call Try.call10 rfl (awake17_spec W0 _)) ?_
                                      rintro _ B_ ⟨rfl, hB_⟩
                                      obtain rfl := hB_.symm
                                      refine s_val rfl (v_pick_t rfl rfl) ?_
                                      refine s_val rfl (v_assign rfl) ?_
                                      refine x_nil ?_
                                      refine n_then ?_
                                      refine x_ret ?_
                                      refine x_done (.inl rfl) (.cons (r_tmp rfl) .nil) ?_
                                      exact ⟨_, ⟨rfl, rfl⟩, inferInstance⟩
                                    · intro g16_29
                                      exact absurd rfl g16_29
                                  · intro g16_23
                                    exact absurd (by simp) g16_23
                                · intro g16_17
                                  exact absurd ha.symm g16_17
                              · intro g16_11
                                exact absurd hz g16_11
                            · intro g16_7
                              exact absurd rfl g16_7
                          · intro g16_3
                            exact absurd rfl g16_3
                · intro g8_4
                  exact absurd (show (p : Int) ≥ 0 by omega) g8_4
            · intro g6_19
              exact absurd (show a ≥ 0 by omega) g6_19

set_option maxRecDepth 100000 in
theorem WalkTables_lifted (os : Os) (started : os.Started) (H : Type) (enc : TypeId × Value → H) :
    ReturnsInHanded {} Try.checked os 5 .any (Rows.walkTablesSpec.pre6 enc Try.prog Try.f5 Rows.walkTablesRow.domain false) (Rows.walkTablesSpec.post enc Try.prog Try.f5 false true false false) := by
  refine returnsInHanded_of_change (C := Try.checked) own started (by kernel_rfl) Try.func5
    (ChangeSpec.witness6 (enc := enc) (C := Try.checked) false ⟨#[], #[.int .u16 0, .slice none 0 0, .int .i64 0, .int .u32 0], []⟩ 8 (by kernel_rfl) (by kernel_rfl) (by kernel_rfl) (by kernel_rfl)) ?_
  intro W base args ds gs before hval0 hW hcnd _
  have hval : ∀ (j : Nat) t v, Try.f5.params[j]? = some t → args[j]? = some v → Value.okWide Try.prog W .any base t v := hval0
  have hW' := hW
  obtain ⟨p, q, hA, hV, rfl, hfz, hnd⟩ := hW
  obtain ⟨rfl, rfl⟩ := trodVars_none hV
  have hT0 := ty_all Try.f5.params.toList args.toList ds p (fun j t v ht hv => hval j t v (by simpa using ht) (by simpa using hv)) hA
  obtain ⟨vs, rfl⟩ : ∃ vs : List Value, args = vs.toArray := ⟨args.toList, by simp⟩
  rw [Try.params5] at hT0
  obtain ⟨k1, k2, hT⟩ := hT0
  replace k1 : 4 = vs.length := by simpa using k1
  replace k2 : 4 = ds.length := by simpa using k2
  obtain ⟨v0, vs0, rfl, k1_0⟩ := list_cons k1
  obtain ⟨v1, vs1, rfl, k1_1⟩ := list_cons k1_0
  obtain ⟨v2, vs2, rfl, k1_2⟩ := list_cons k1_1
  obtain ⟨v3, vs3, rfl, k1_3⟩ := list_cons k1_2
  obtain rfl := list_nil k1_3
  obtain ⟨d0, ds0, rfl, k2_0⟩ := list_cons k2
  obtain ⟨d1, ds1, rfl, k2_1⟩ := list_cons k2_0
  obtain ⟨d2, ds2, rfl, k2_2⟩ := list_cons k2_1
  obtain ⟨d3, ds3, rfl, k2_3⟩ := list_cons k2_2
  obtain rfl := list_nil k2_3
  have T0 : Ty Try.prog W 22 v0 := hT 0 22 v0 rfl rfl
  have T1 : Ty Try.prog W 23 v1 := hT 1 23 v1 rfl rfl
  have T2 : Ty Try.prog W 3 v2 := hT 2 3 v2 rfl rfl
  have T3 : Ty Try.prog W 24 v3 := hT 3 24 v3 rfl rfl
  clear hT hval0
  have walk : Spec Try.prog W 5 [v0, v1, v2, v3] [] (fun v _ => v = .bool true) := by
    clear hval hW' hV hA hfz hnd hcnd
    obtain ⟨gone, rfl, hg⟩ := ty_u16 T0
    obtain ⟨al, cl, ts, rfl, hl, hts, htok⟩ := ty_puts17 T1
    obtain ⟨root, rfl, hr⟩ := ty_i64 T2
    obtain ⟨va, rfl, hva⟩ := ty_u32 T3
    exact fun w' hO => (WalkTables_walk W gone hg al cl ts root va hva hts htok hl w' hO).mono fun e w'' ⟨v, B, h1, h2, h3⟩ => ⟨v, B, h1, h2.1, h3⟩
  refine (walk W (Own.refl W)).mono fun e W' h => ?_
  obtain ⟨v, B, rfl, rfl, hO⟩ := h
  have bel := hO.below
  exact ⟨_, rfl, _, _, _, [], _, [], hW', trodAll_mk1 (shut_bool Try.underlying4 _), below_trodAll laidOut bel _ _ _ _ (by kernel_rfl) hA, rfl, bel.frame _, fun h => by cases h⟩

theorem WalkTables_over : Rows.walkTablesRow.holds Try.pinned (OpenSpec.ofChange Rows.walkTablesSpec) :=
  OpenClaim.holds_of_wide 5 Try.f5 rfl rfl rfl rfl rfl rfl rfl ⟨rfl, rfl, rfl, rfl, rfl⟩ rfl rfl rfl rfl rfl (by kernel_rfl) Try.func5 (by kernel_rfl)
    (of_decide_eq_true (by kernel_rfl)) (by unfold Func.isWrapper; first | (rw [if_pos (by decide +kernel)]; kernel_rfl) | (rw [if_neg (by decide +kernel)]; exact ⟨rfl, rfl⟩))
    (fun os started H enc _ => WalkTables_lifted os started H enc)

/-- The statement. -/
theorem WalkTables_holds : Rows.WalkTablesSaid := WalkTables_over
end Go.Proofs.Ytalpgipkkdlpgaa
