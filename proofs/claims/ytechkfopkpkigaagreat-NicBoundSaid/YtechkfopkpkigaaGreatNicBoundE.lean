/-
  Part 5 of the proof of NicBound: rules, and walks of functions. Conditions: none.
-/
import Derived.Test.YtechkfopkpkigaaGreatNicBoundD
namespace Go.Proofs.YtechkfopkpkigaaGreat
open Go.RowKit
set_option linter.unusedSimpArgs false
set_option linter.unusedVariables false
set_option maxRecDepth 20000
theorem wtP_le {ps : List Prt} (h : PrS ps) (i : Int) : wtP ps i ≤ 64 := by
  unfold wtP; split
  · rename_i hin
    obtain ⟨k, rfl, hk, _⟩ := isIn_nat hin
    have h1 := h.1.at_ hk
    have h2 := mostP_le (ps.getD k default)
    show (ps.getD k default).l.length ≤ 64
    omega
  · omega
theorem nb_start {tx : Bool} {x : List Frm × Nat} {ps : List Prt} : NbI tx (wtP ps 0) (sv27 x ps) := ⟨Nat.zero_le _, Nat.le_refl _, Nat.zero_le _, fun _ => rfl, rfl⟩
theorem NicBound_walk (W0 : World) (g : Gst) (hg : ∀ A, GOk (OwnP W0 A) g) (ap : Option Addr) (cp : Nat) (pk : List ByteArray) (hpk : SlB W0 ap 1 (fun s => [sV s]) pk) (hpl : pk.length < 9223372036854775808) (hps : ∀ s ∈ pk, s.size < 9223372036854775808) (tx : Bool) :
    Spec Tryz.prog W0 7 [.agg (gstV g).toArray, .slice ap pk.length cp, .bool tx] [] (fun v B => v = .bool true ∧ B = []) := by
  refine spec_body Tryz.func7 Tryz.ntmps7 rfl rfl ?_
  refine x_seq ?_
  refine x_region ?_
  refine s_do rfl (d_boxA rfl) ?_
  rintro _ _ ⟨b3, rfl, rfl⟩
  refine s_val rfl (v_assign rfl) ?_
  refine x_nil ?_
  refine n_then ?_
  refine x_seq ?_
  refine x_region ?_
  refine s_val rfl (v_loadAll Tryz.isAgg87 Tryz.sizeOf87 rfl rfl) ?_
  refine s_do rfl (d_call Tryz.call40 rfl (made27_spec W0 _ g (hg _) fit27)) ?_
  rintro _ B_ ⟨pv, ps, pm, qv, qs, qm, bq, br, rfl, hB_⟩
  obtain rfl := hB_.symm
  have hM := mk27_ok g
  generalize mk27 g = x at hM ⊢
  refine s_val rfl (v_move rfl) ?_
  refine s_val rfl (v_extract rfl rfl) ?_
  refine s_val rfl (v_extract rfl rfl) ?_
  refine s_val rfl (v_extract rfl rfl) ?_
  refine s_val rfl (v_extract rfl rfl) ?_
  refine s_val rfl (v_assign rfl) ?_
  refine s_val rfl (v_assign rfl) ?_
  refine s_val rfl (v_assign rfl) ?_
  refine s_val rfl (v_assign rfl) ?_
  refine x_nil ?_
  refine n_then ?_
  refine x_seq ?_
  refine x_region ?_
  refine s_val rfl (v_build Tryz.underlying81 Tryz.zeroValue81 (sized_cons Tryz.sizeOf3 (sized_cons Tryz.sizeOf3 sized_nil)) (fil_scal rfl Tryz.sizeOf3 rfl rfl (Nat.le_of_ble_eq_true rfl) SetL.eq fil_nil)) ?_
  refine s_val rfl (v_build Tryz.underlying81 Tryz.zeroValue81 (sized_cons Tryz.sizeOf3 (sized_cons Tryz.sizeOf3 sized_nil)) (fil_scal rfl Tryz.sizeOf3 rfl rfl (Nat.le_of_ble_eq_true rfl) SetL.eq fil_nil)) ?_
  refine s_do rfl (d_sliceAgg Tryz.underlying24 Tryz.sizeOf81 Tryz.zeroValue81 rfl (elsK_cons rfl rfl (elsK_cons rfl rfl elsK_nil)) rfl (by decide) (by decide) (by decide)) ?_
  rintro _ _ ⟨bl, rfl, rfl⟩
  refine s_do rfl (d_call Tryz.call39 rfl (prNew_spec W0 _ [(0, 0), (0, -1)] (some ⟨bl, 0, none⟩) 2 2 rfl (by decide) (sla_cells (.inr ⟨bl, rfl⟩) (cells_all (b := bl)) (fun _ => rfl) rfl (by decide)) (by decide))) ?_
  rintro _ B_ ⟨p, rfl, hB_⟩
  obtain rfl := hB_.symm
  have hP0 := newP_okS (l := [(0, 0), (0, -1)]) (by decide)
  generalize newP [(0, 0), (0, -1)] = p0 at hP0 ⊢
  refine s_val rfl (v_move rfl) ?_
  refine s_val rfl (v_extract rfl rfl) ?_
  refine s_val rfl (v_extract rfl rfl) ?_
  refine s_val rfl (v_assign rfl) ?_
  refine s_val rfl (v_assign rfl) ?_
  refine x_nil ?_
  refine n_then ?_
  refine x_seq ?_
  refine x_seq ?_
  refine x_region ?_
  refine s_val rfl (v_move rfl) ?_
  refine s_val rfl (v_eql_ptr_nil Tryz.underlying45 rfl rfl) ?_
  refine s_val rfl (v_move rfl) ?_
  refine s_or rfl rfl rfl ?_ ?_
  · intro g3_3
    cases g3_3
  · intro g3_3
    refine s_val rfl (v_move rfl) ?_
    refine s_yes rfl rfl ?_
    refine s_val rfl (v_eql_ptr_nil Tryz.underlying77 rfl rfl) ?_
    refine s_val rfl (v_pick_f rfl rfl) ?_
    refine s_val rfl (v_move rfl) ?_
    refine s_or rfl rfl rfl ?_ ?_
    · intro g3_7
      cases g3_7
    · intro g3_7
      refine s_val rfl (v_move rfl) ?_
      refine s_yes rfl rfl ?_
      refine s_val rfl (v_neq rfl rfl) ?_
      refine s_val rfl (v_pick_f rfl rfl) ?_
      refine x_nil ?_
      refine n_then ?_
      refine x_if rfl ?_ ?_
      · intro c3
        exact absurd rfl c3
      · intro c3
        refine x_skip ?_
        refine n_then ?_
        refine x_cut (fun q : List Prt => PrS q) (fun _ => [(2, .bool tx), (7, .pointer (some ⟨pv, 0, none⟩)), (8, .pointer (some ⟨bq, 0, none⟩)), (11, .pointer (some ⟨p, 0, none⟩))]) (fun q => pt bq (qO true q27) :: pt pv (viO ps pm x.2) :: stoH ps x.1 :: pt pm (gmO (pg23 8)) :: portsH p q :: []) ?_ ?_
        · skip
          refine x_seq ?_
          refine x_region ?_
          refine s_val rfl (v_assign rfl) ?_
          refine x_nil ?_
          refine n_then ?_
          refine x_block ?_
          refine x_loop (fun i : Nat => i ≤ pk.length) (fun i => [(1, .slice ap pk.length cp), (2, .bool tx), (7, .pointer (some ⟨pv, 0, none⟩)), (8, .pointer (some ⟨bq, 0, none⟩)), (11, .pointer (some ⟨p, 0, none⟩)), (13, .int .i64 i)]) (fun i => pt bq (qO true q27) :: pt pv (viO ps pm x.2) :: stoH ps x.1 :: pt pm (gmO (pg23 8)) :: portsH p (arK p0 pk i) :: []) (fun i => 9 - i) 0 ?_ ?_ ?_ ?_
          · exact Nat.zero_le _
          · repeat (first | exact sub_nil | refine sub_cons rfl ?_)
          · simp only [arK]; exact inferInstance
          · intro i hi
            have hPi := arK_ok (pk := pk) hP0 i
            refine x_seq ?_
            refine x_seq ?_
            refine x_region ?_
            refine s_val rfl (v_move rfl) ?_
            refine s_val rfl (v_move rfl) ?_
            refine s_val rfl (v_len_slice Tryz.underlying97 rfl) ?_
            refine s_val rfl (v_lss rfl rfl) ?_
            refine s_val rfl (v_move rfl) ?_
            refine s_and rfl rfl rfl ?_ ?_
            · intro g6_5
              refine s_val rfl (v_move rfl) ?_
              refine s_yes rfl rfl ?_
              refine s_val rfl (v_lss rfl rfl) ?_
              refine s_val rfl (v_pick_t rfl rfl) ?_
              refine x_nil ?_
              refine n_then ?_
              refine x_if rfl ?_ ?_
              · intro c6
                refine x_skip ?_
                refine n_then ?_
                refine x_seq ?_
                refine x_block ?_
                have hi1 : i < pk.length := by omega
                obtain ⟨gp, op, rfl, hcp⟩ := hpk i pk[i] (by simp [hi1])
                have hgd : pk.getD i ByteArray.empty = pk[i] := by simp [List.getD, hi1]
                refine x_region ?_
                refine s_val rfl (v_move rfl) ?_
                refine s_val rfl (v_move rfl) ?_
                refine s_val rfl (v_move rfl) ?_
                refine s_val rfl (v_idx Tryz.underlying97 Tryz.sizeOf9 rfl rfl rfl hi1 (by first | exact Nat.zero_add _ | rfl)) ?_
                refine s_val rfl (v_load Tryz.isAgg9 rfl (Cells.weak (hcp []) 0 _ rfl)) ?_
                refine s_do rfl (d_call1 Tryz.call47 rfl (prArrive_spec W0 _ p (arK p0 pk i) hPi.1 0 pk[i] (hps _ (List.getElem_mem hi1)))) ?_
                rintro _ B_ ⟨rfl, hB_⟩
                obtain rfl := hB_.symm
                refine x_nil ?_
                refine n_block ?_
                refine n_then ?_
                refine x_region ?_
                refine s_val rfl (v_move rfl) ?_
                refine s_val rfl (v_add rfl rfl (by first | exact w64 (by omega) | rfl)) ?_
                refine s_val rfl (v_assign rfl) ?_
                refine x_nil ?_
                refine n_then ?_
                refine inv_intro (i + 1) ?_ ?_ ?_ ?_
                · omega
                · omega
                · repeat (first | exact sub_nil | refine sub_cons rfl ?_)
                · simp only [arK, hgd]; exact inferInstance
              · intro c6
                refine x_exit ?_
                refine e_then ?_
                refine e_then ?_
                refine e_block ?_
                refine n_then ?_
                refine mid_intro (arK p0 pk i) ?_ ?_ ?_
                · exact hPi
                · repeat (first | exact sub_nil | refine sub_cons rfl ?_)
                · exact inferInstance
            · intro g6_5
              refine s_no rfl rfl rfl rfl ?_
              refine s_val rfl (v_pick_f rfl rfl) ?_
              refine x_nil ?_
              refine n_then ?_
              refine x_iff rfl ?_
              refine x_exit ?_
              refine e_then ?_
              refine e_then ?_
              refine e_block ?_
              refine n_then ?_
              refine mid_intro (arK p0 pk i) ?_ ?_ ?_
              · exact hPi
              · repeat (first | exact sub_nil | refine sub_cons rfl ?_)
              · exact inferInstance
        · intro q hq
          refine x_seq ?_
          refine x_region ?_
          refine s_val rfl (v_move rfl) ?_
          refine s_do rfl (d_call1 Tryz.call46 rfl (prWaits_spec W0 _ p q 0)) ?_
          rintro _ B_ ⟨rfl, hB_⟩
          obtain rfl := hB_.symm
          refine s_val rfl (v_assign rfl) ?_
          refine x_nil ?_
          refine n_then ?_
          refine x_seq ?_
          refine x_region ?_
          refine s_val rfl (v_build Tryz.underlying90 Tryz.zeroValue90 (sized_cons Tryz.sizeOf3 (sized_cons Tryz.sizeOf3 (sized_cons Tryz.sizeOf3 (sized_cons Tryz.sizeOf3 sized_nil)))) fil_nil) ?_
          refine s_do rfl (d_allocA Tryz.zeroValue90) ?_
          rintro _ _ ⟨bs, rfl, rfl⟩
          refine s_do0 (d_storeAll Tryz.sizeOf90 rfl rfl rfl rfl rfl) ?_
          rintro _ _ rfl
          refine x_nil ?_
          refine n_then ?_
          refine x_cut (fun y : SvS => (NbI tx (wtP q 0) y ∧ y.c ≤ 0 + 4) ∧ SvOk 8 r27 y) (fun y => [(2, .bool tx), (8, .pointer (some ⟨bq, 0, none⟩)), (11, .pointer (some ⟨p, 0, none⟩)), (14, .int .i64 (wtP q 0 : Nat)), (15, .pointer (some ⟨bs, 0, none⟩))]) (fun y => pt bs (cob y.v 90) :: pt bq (qO true y.s) :: portsH p y.ps :: []) ?_ ?_
          · skip
            refine x_seq ?_
            refine x_region ?_
            refine s_val rfl (v_move rfl) ?_
            refine x_nil ?_
            refine n_then ?_
            refine x_if rfl ?_ ?_
            · intro c11
              refine x_region ?_
              refine s_val rfl (v_move rfl) ?_
              refine s_val rfl (v_move rfl) ?_
              refine s_val rfl (v_move rfl) ?_
              refine s_do rfl (d_call5 Tryz.call42 rfl (nicTx27 W0 _ bq p pv ps pm 0 x hM q hq)) ?_
              rintro _ B_ ⟨y, hy, rfl, hB_⟩
              obtain rfl := hB_.symm
              have hyn := svGo_nb (tx := true) (pg := pg23 8) 4 (sv_start q27_ok rfl hM.1 hM.2.1 hM.2.2 hq) (nb_start (x := x) (ps := q))
              have hyo := svGo_ok (tx := true) (pg := pg23 8) (port := 0) 4 (sv_start q27_ok rfl hM.1 hM.2.1 hM.2.2 hq)
              rw [← hy] at hyn hyo
              subst c11
              refine s_do0 (d_storeAll Tryz.sizeOf90 rfl rfl rfl rfl rfl) ?_
              rintro _ _ rfl
              refine x_nil ?_
              refine n_then ?_
              refine mid_intro y ?_ ?_ ?_
              · exact ⟨hyn, hyo⟩
              · repeat (first | exact sub_nil | refine sub_cons rfl ?_)
              · exact inferInstance
            · intro c11
              refine x_region ?_
              refine s_val rfl (v_move rfl) ?_
              refine s_val rfl (v_move rfl) ?_
              refine s_val rfl (v_move rfl) ?_
              refine s_do rfl (d_call5 Tryz.call43 rfl (nicRx27 W0 _ bq p pv ps pm 0 x hM q hq)) ?_
              rintro _ B_ ⟨y, hy, rfl, hB_⟩
              obtain rfl := hB_.symm
              have hyn := svGo_nb (tx := false) (pg := pg23 8) 4 (sv_start q27_ok rfl hM.1 hM.2.1 hM.2.2 hq) (nb_start (x := x) (ps := q))
              have hyo := svGo_ok (tx := false) (pg := pg23 8) (port := 0) 4 (sv_start q27_ok rfl hM.1 hM.2.1 hM.2.2 hq)
              rw [← hy] at hyn hyo
              obtain rfl : tx = false := by simpa using c11
              refine s_do0 (d_storeAll Tryz.sizeOf90 rfl rfl rfl rfl rfl) ?_
              rintro _ _ rfl
              refine x_nil ?_
              refine n_then ?_
              refine mid_intro y ?_ ?_ ?_
              · exact ⟨hyn, hyo⟩
              · repeat (first | exact sub_nil | refine sub_cons rfl ?_)
              · exact inferInstance
          · intro ⟨fy, dy, sy, py, cy, ny, wb, wy⟩ ⟨⟨⟨n1, n2, n3, n4, n5⟩, n6⟩, hyo⟩
            refine x_seq ?_
            refine x_seq ?_
            have hq64 := wtP_le hq 0
            dsimp only at n1 n2 n3 n4 n5 n6
            dsimp only [SvS.v]
            refine x_region ?_
            refine s_val rfl (v_fieldAddr rfl Tryz.underlying90 rfl Tryz.sizeOf3 rfl (by first | exact Nat.zero_add _ | rfl)) ?_
            refine s_val rfl (v_load Tryz.isAgg3 rfl (cell_own rfl)) ?_
            refine s_val rfl (v_lss rfl rfl) ?_
            refine s_val rfl (v_move rfl) ?_
            refine s_or rfl rfl rfl ?_ ?_
            · intro g14_4
              exfalso; omega
            · intro g14_4
              refine s_val rfl (v_fieldAddr rfl Tryz.underlying90 rfl Tryz.sizeOf3 rfl (by first | exact Nat.zero_add _ | rfl)) ?_
              refine s_yes rfl rfl ?_
              refine s_val rfl (v_load Tryz.isAgg3 rfl (cell_own rfl)) ?_
              refine s_yes rfl rfl ?_
              refine s_val rfl (v_gtr rfl rfl) ?_
              refine s_val rfl (v_pick_f rfl rfl) ?_
              refine s_val rfl (v_move rfl) ?_
              refine s_or rfl rfl rfl ?_ ?_
              · intro g14_9
                exfalso; omega
              · intro g14_9
                refine s_val rfl (v_fieldAddr rfl Tryz.underlying90 rfl Tryz.sizeOf3 rfl (by first | exact Nat.zero_add _ | rfl)) ?_
                refine s_yes rfl rfl ?_
                refine s_val rfl (v_load Tryz.isAgg3 rfl (cell_own rfl)) ?_
                refine s_yes rfl rfl ?_
                refine s_val rfl (v_fieldAddr rfl Tryz.underlying90 rfl Tryz.sizeOf3 rfl (by first | exact Nat.zero_add _ | rfl)) ?_
                refine s_yes rfl rfl ?_
                refine s_val rfl (v_load Tryz.isAgg3 rfl (cell_own rfl)) ?_
                refine s_yes rfl rfl ?_
                refine s_val rfl (v_mul rfl rfl (by rw [w64 (by omega)]; omega : IntKind.wrap .i64 (4 * (cy : Int)) = ((4 * cy : Nat) : Int))) ?_
                refine s_yes rfl rfl ?_
                refine s_val rfl (v_gtr rfl rfl) ?_
                refine s_val rfl (v_pick_f rfl rfl) ?_
                refine s_val rfl (v_move rfl) ?_
                refine s_or rfl rfl rfl ?_ ?_
                · intro g14_17
                  exfalso; omega
                · intro g14_17
                  refine s_val rfl (v_fieldAddr rfl Tryz.underlying90 rfl Tryz.sizeOf3 rfl (by first | exact Nat.zero_add _ | rfl)) ?_
                  refine s_yes rfl rfl ?_
                  refine s_val rfl (v_load Tryz.isAgg3 rfl (cell_own rfl)) ?_
                  refine s_yes rfl rfl ?_
                  refine s_val rfl (v_fieldAddr rfl Tryz.underlying90 rfl Tryz.sizeOf3 rfl (by first | exact Nat.zero_add _ | rfl)) ?_
                  refine s_yes rfl rfl ?_
                  refine s_val rfl (v_load Tryz.isAgg3 rfl (cell_own rfl)) ?_
                  refine s_yes rfl rfl ?_
                  refine s_val rfl (v_lss rfl rfl) ?_
                  refine s_val rfl (v_pick_f rfl rfl) ?_
                  refine s_val rfl (v_move rfl) ?_
                  refine s_or rfl rfl rfl ?_ ?_
                  · intro g14_24
                    exfalso; omega
                  · intro g14_24
                    refine s_val rfl (v_fieldAddr rfl Tryz.underlying90 rfl Tryz.sizeOf3 rfl (by first | exact Nat.zero_add _ | rfl)) ?_
                    refine s_yes rfl rfl ?_
                    refine s_val rfl (v_load Tryz.isAgg3 rfl (cell_own rfl)) ?_
                    refine s_yes rfl rfl ?_
                    refine s_val rfl (v_lss rfl rfl) ?_
                    refine s_val rfl (v_pick_f rfl rfl) ?_
                    refine s_val rfl (v_move rfl) ?_
                    refine s_or rfl rfl rfl ?_ ?_
                    · intro g14_29
                      exfalso; omega
                    · intro g14_29
                      refine s_val rfl (v_fieldAddr rfl Tryz.underlying90 rfl Tryz.sizeOf3 rfl (by first | exact Nat.zero_add _ | rfl)) ?_
                      refine s_yes rfl rfl ?_
                      refine s_val rfl (v_load Tryz.isAgg3 rfl (cell_own rfl)) ?_
                      refine s_yes rfl rfl ?_
                      refine s_val rfl (v_fieldAddr rfl Tryz.underlying90 rfl Tryz.sizeOf3 rfl (by first | exact Nat.zero_add _ | rfl)) ?_
                      refine s_yes rfl rfl ?_
                      refine s_val rfl (v_load Tryz.isAgg3 rfl (cell_own rfl)) ?_
                      refine s_yes rfl rfl ?_
                      refine s_val rfl (v_mul rfl rfl (by rw [w64 (by omega)]; omega : IntKind.wrap .i64 ((cy : Int) * 36) = ((cy * 36 : Nat) : Int))) ?_
                      refine s_yes rfl rfl ?_
                      refine s_val rfl (v_gtr rfl rfl) ?_
                      refine s_val rfl (v_pick_f rfl rfl) ?_
                      refine x_nil ?_
                      refine n_then ?_
                      refine x_if rfl ?_ ?_
                      · intro c14
                        exfalso; omega
                      · intro c14
                        refine x_skip ?_
                        refine n_then ?_
                        refine x_seq ?_
                        refine x_draw [(bs, 0, _)] 24 mixed rfl (sc_own sc_end) (fun hS => ?_)
                        refine d_take 0 rfl rfl (by kernel_rfl) (by kernel_rfl) (by kernel_rfl) rfl hS (v_move rfl) ?_
                        refine d_take 1 rfl rfl (by kernel_rfl) (by kernel_rfl) (by kernel_rfl) rfl hS (v_move rfl) ?_
                        refine x_split (t := 105) rfl ?_ ?_
                        · intro g16_2
                          refine d_skip 2 rfl rfl (by kernel_rfl) (by kernel_rfl) (by kernel_rfl) rfl hS ?_
                          refine d_skip 3 rfl rfl (by kernel_rfl) (by kernel_rfl) (by kernel_rfl) rfl hS ?_
                          refine d_skip 4 rfl rfl (by kernel_rfl) (by kernel_rfl) (by kernel_rfl) rfl hS ?_
                          refine d_skip 5 rfl rfl (by kernel_rfl) (by kernel_rfl) (by kernel_rfl) rfl hS ?_
                          refine d_skip 6 rfl rfl (by kernel_rfl) (by kernel_rfl) (by kernel_rfl) rfl hS ?_
                          refine d_skip 7 rfl rfl (by kernel_rfl) (by kernel_rfl) (by kernel_rfl) rfl hS ?_
                          refine d_skip 8 rfl rfl (by kernel_rfl) (by kernel_rfl) (by kernel_rfl) rfl hS ?_
                          refine d_take 9 rfl rfl (by kernel_rfl) (by kernel_rfl) (by kernel_rfl) rfl hS (v_pick_t rfl rfl) ?_
                          refine d_take 10 rfl rfl (by kernel_rfl) (by kernel_rfl) (by kernel_rfl) rfl hS (v_move rfl) ?_
                          refine d_take 11 rfl rfl (by kernel_rfl) (by kernel_rfl) (by kernel_rfl) rfl hS (v_fieldAddr rfl Tryz.underlying90 rfl Tryz.sizeOf3 rfl (by first | exact Nat.zero_add _ | rfl)) ?_
                          refine d_take 12 rfl rfl (by kernel_rfl) (by kernel_rfl) (by kernel_rfl) rfl hS (v_load Tryz.isAgg3 rfl (cell_sc0 (k := 0) rfl rfl)) ?_
                          refine d_take 13 rfl rfl (by kernel_rfl) (by kernel_rfl) (by kernel_rfl) rfl hS (v_eql rfl rfl) ?_
                          refine d_take 14 rfl rfl (by kernel_rfl) (by kernel_rfl) (by kernel_rfl) rfl hS (v_move rfl) ?_
                          refine d_one 15 (by kernel_rfl) rfl rfl (d_call1 Tryz.call29 rfl (qState_spec W0 _ bq sy)) rfl ?_; clear hS
                          rintro _ B_ ⟨rfl, hB_⟩
                          obtain rfl := hB_.symm
                          refine ⟨(sc_own sc_end), fun hS => ?_⟩
                          refine d_take 16 rfl rfl (by kernel_rfl) (by kernel_rfl) (by kernel_rfl) rfl hS (v_fieldV rfl Tryz.underlying59 rfl Tryz.isAgg3 rfl) ?_
                          refine d_take 17 rfl rfl (by kernel_rfl) (by kernel_rfl) (by kernel_rfl) rfl hS (v_eql rfl rfl) ?_
                          refine d_take 18 rfl rfl (by kernel_rfl) (by kernel_rfl) (by kernel_rfl) rfl hS (v_eql_bool Tryz.underlying4 rfl rfl) ?_
                          refine d_take 19 rfl rfl (by kernel_rfl) (by kernel_rfl) (by kernel_rfl) rfl hS (v_pick_t rfl rfl) ?_
                          refine d_take 20 rfl rfl (by kernel_rfl) (by kernel_rfl) (by kernel_rfl) rfl hS (v_move rfl) ?_
                          refine x_split (t := 124) rfl ?_ ?_
                          · intro g16_21
                            refine d_one 21 (by kernel_rfl) rfl rfl (d_call Tryz.call38 rfl (awake27_spec W0 _)) rfl ?_; clear hS
                            rintro _ B_ ⟨rfl, hB_⟩
                            obtain rfl := hB_.symm
                            refine ⟨(sc_own sc_end), fun hS => ?_⟩
                            refine d_take 22 rfl rfl (by kernel_rfl) (by kernel_rfl) (by kernel_rfl) rfl hS (v_pick_t rfl rfl) ?_
                            refine d_take 23 rfl rfl (by kernel_rfl) (by kernel_rfl) (by kernel_rfl) rfl hS (v_assign rfl) ?_
                            refine d_done (by kernel_rfl) ?_; clear hS
                            refine n_then ?_
                            refine x_ret ?_
                            refine x_done (.inl rfl) (.cons (r_tmp rfl) .nil) ?_
                            exact ⟨_, ⟨rfl, rfl⟩, inferInstance⟩
                          · intro g16_21
                            exfalso; apply g16_21; rw [n5]
                        · intro g16_2
                          refine d_take 2 rfl rfl (by kernel_rfl) (by kernel_rfl) (by kernel_rfl) rfl hS (v_move rfl) ?_
                          refine d_take 4 rfl rfl (by kernel_rfl) (by kernel_rfl) (by kernel_rfl) rfl hS (v_move rfl) ?_
                          refine d_take 5 rfl rfl (by kernel_rfl) (by kernel_rfl) (by kernel_rfl) rfl hS (v_fieldAddr rfl Tryz.underlying90 rfl Tryz.sizeOf3 rfl (by first | exact Nat.zero_add _ | rfl)) ?_
                          refine d_take 6 rfl rfl (by kernel_rfl) (by kernel_rfl) (by kernel_rfl) rfl hS (v_load Tryz.isAgg3 rfl (cell_sc0 (k := 0) rfl rfl)) ?_
                          refine d_take 7 rfl rfl (by kernel_rfl) (by kernel_rfl) (by kernel_rfl) rfl hS (v_sub rfl rfl (w64 (by omega))) ?_
                          refine d_one 3 (by kernel_rfl) rfl rfl (d_call1 Tryz.call46 rfl (prWaits_spec W0 _ p py 0)) rfl ?_; clear hS
                          rintro _ B_ ⟨rfl, hB_⟩
                          obtain rfl := hB_.symm
                          refine ⟨(sc_own sc_end), fun hS => ?_⟩
                          refine d_take 8 rfl rfl (by kernel_rfl) (by kernel_rfl) (by kernel_rfl) rfl hS (v_eql rfl rfl) ?_
                          refine d_take 9 rfl rfl (by kernel_rfl) (by kernel_rfl) (by kernel_rfl) rfl hS (v_pick_f rfl rfl) ?_
                          refine d_take 10 rfl rfl (by kernel_rfl) (by kernel_rfl) (by kernel_rfl) rfl hS (v_move rfl) ?_
                          refine x_split (t := 114) rfl ?_ ?_
                          · intro g16_11
                            refine d_take 11 rfl rfl (by kernel_rfl) (by kernel_rfl) (by kernel_rfl) rfl hS (v_fieldAddr rfl Tryz.underlying90 rfl Tryz.sizeOf3 rfl (by first | exact Nat.zero_add _ | rfl)) ?_
                            refine d_take 12 rfl rfl (by kernel_rfl) (by kernel_rfl) (by kernel_rfl) rfl hS (v_load Tryz.isAgg3 rfl (cell_sc0 (k := 0) rfl rfl)) ?_
                            refine d_take 13 rfl rfl (by kernel_rfl) (by kernel_rfl) (by kernel_rfl) rfl hS (v_eql rfl rfl) ?_
                            refine d_take 14 rfl rfl (by kernel_rfl) (by kernel_rfl) (by kernel_rfl) rfl hS (v_move rfl) ?_
                            refine d_one 15 (by kernel_rfl) rfl rfl (d_call1 Tryz.call29 rfl (qState_spec W0 _ bq sy)) rfl ?_; clear hS
                            rintro _ B_ ⟨rfl, hB_⟩
                            obtain rfl := hB_.symm
                            refine ⟨(sc_own sc_end), fun hS => ?_⟩
                            refine d_take 16 rfl rfl (by kernel_rfl) (by kernel_rfl) (by kernel_rfl) rfl hS (v_fieldV rfl Tryz.underlying59 rfl Tryz.isAgg3 rfl) ?_
                            refine d_take 17 rfl rfl (by kernel_rfl) (by kernel_rfl) (by kernel_rfl) rfl hS (v_eql rfl rfl) ?_
                            refine d_take 18 rfl rfl (by kernel_rfl) (by kernel_rfl) (by kernel_rfl) rfl hS (v_eql_bool Tryz.underlying4 rfl rfl) ?_
                            refine d_take 19 rfl rfl (by kernel_rfl) (by kernel_rfl) (by kernel_rfl) rfl hS (v_pick_t rfl rfl) ?_
                            refine d_take 20 rfl rfl (by kernel_rfl) (by kernel_rfl) (by kernel_rfl) rfl hS (v_move rfl) ?_
                            refine x_split (t := 124) rfl ?_ ?_
                            · intro g16_21
                              refine d_one 21 (by kernel_rfl) rfl rfl (d_call Tryz.call38 rfl (awake27_spec W0 _)) rfl ?_; clear hS
                              rintro _ B_ ⟨rfl, hB_⟩
                              obtain rfl := hB_.symm
                              refine ⟨(sc_own sc_end), fun hS => ?_⟩
                              refine d_take 22 rfl rfl (by kernel_rfl) (by kernel_rfl) (by kernel_rfl) rfl hS (v_pick_t rfl rfl) ?_
                              refine d_take 23 rfl rfl (by kernel_rfl) (by kernel_rfl) (by kernel_rfl) rfl hS (v_assign rfl) ?_
                              refine d_done (by kernel_rfl) ?_; clear hS
                              refine n_then ?_
                              refine x_ret ?_
                              refine x_done (.inl rfl) (.cons (r_tmp rfl) .nil) ?_
                              exact ⟨_, ⟨rfl, rfl⟩, inferInstance⟩
                            · intro g16_21
                              exfalso; apply g16_21; rw [n5]
                          · intro g16_11
                            exact absurd (n4 (by simpa using g16_2)) (by show ¬ wtP py 0 + cy = wtP q 0; omega)
end Go.Proofs.YtechkfopkpkigaaGreat
namespace Go.Proofs.YtechkfopkpkigaaGreat
open Go.ChangeShapes Go.WideShapes Go.ChangeAt Go.RowKit
set_option linter.unusedSimpArgs false
set_option linter.unusedVariables false
theorem own : ownKnob Tryz.prog.godebug = none := by kernel_rfl
theorem laidOut : laidOutB Tryz.prog = true := by kernel_rfl
variable {W : World} {v : Value}
theorem wf_u32 {n : Int} (h : (Lit.int .u32 n).wf = true) : ∃ w : Nat, n = (w : Int) ∧ w < 4294967296 := by
  simp [Lit.wf, IntKind.min, IntKind.max, IntKind.signed, IntKind.bits] at h
  exact ⟨n.toNat, by omega, by omega⟩
theorem wf_u8 {n : Int} (h : (Lit.int .u8 n).wf = true) : ∃ w : Nat, n = (w : Int) ∧ w < 256 := by
  simp [Lit.wf, IntKind.min, IntKind.max, IntKind.signed, IntKind.bits] at h
  exact ⟨n.toNat, by omega, by omega⟩
end Go.Proofs.YtechkfopkpkigaaGreat
namespace Go.Proofs.YtechkfopkpkigaaGreat
open Go.ChangeShapes Go.WideShapes Go.ChangeAt Go.RowKit
set_option linter.unusedSimpArgs false
set_option linter.unusedVariables false
variable {W : World} {v : Value}
theorem inT_byteB {fuel : Nat} {l : List Value} (h : InT Tryz.prog W fuel 5 l) : ∃ x : Nat, l = [bV x] ∧ x < 256 := by
  obtain ⟨n, rfl, hw⟩ := inT_int Tryz.underlying5 h
  obtain ⟨w, rfl, h'⟩ := wf_u8 hw
  exact ⟨w, rfl, h'⟩
theorem inT_bytesB {fuel : Nat} {l : List Value} (h : InT Tryz.prog W fuel 76 l) : ∃ a c xs, l = [.slice a (List.length (α := Nat) xs) c] ∧ xs.length < 9223372036854775808 ∧ SlB W a 1 (fun x => [bV x]) xs ∧ By xs := by
  obtain ⟨a, c, xs, rfl, h1, h2, h3, h4⟩ := inT_sliceF (f := fun x => [bV x]) (Q := fun x => x < 256) 1 Tryz.underlying76 (by kernel_rfl) (by decide) (fun fuel r h => inT_byteB h) h
  exact ⟨a, c, xs, rfl, by simp only [maxLen] at h2; omega, h3, h4⟩
end Go.Proofs.YtechkfopkpkigaaGreat
namespace Go.Proofs.YtechkfopkpkigaaGreat
open Go.ChangeShapes Go.WideShapes Go.ChangeAt Go.RowKit
set_option linter.unusedSimpArgs false
set_option linter.unusedVariables false
variable {W : World} {v : Value}
theorem list4 {l : List Value} (h : l.length = 4) : ∃ a b c d, l = [a, b, c, d] := by
  match l, h with
  | [a, b, c, d], _ => exact ⟨a, b, c, d, rfl⟩
theorem inT_u32c {fuel : Nat} {l : List Value} (h : InT Tryz.prog W fuel 53 l) : ∃ x : Nat, l = [.int .u32 x] ∧ x < 4294967296 := by
  obtain ⟨n, rfl, hw⟩ := inT_int Tryz.underlying53 h
  obtain ⟨w, rfl, h'⟩ := wf_u32 hw
  exact ⟨w, rfl, h'⟩
theorem inT_desc {fuel : Nat} {l : List Value} (h : InT Tryz.prog W fuel 99 l) : ∃ d : Dsc, l = dsV d ∧ d.ok := by
  obtain ⟨hl, f', hf⟩ := inT_struct Tryz.underlying99 h
  obtain ⟨x0, x1, x2, x3, rfl⟩ := list4 (hl.trans (by kernel_rfl))
  have h0 := hf _ (List.mem_cons_self ..)
  have h1 := hf _ (List.mem_cons_of_mem _ (List.mem_cons_self ..))
  have h2 := hf _ (List.mem_cons_of_mem _ (List.mem_cons_of_mem _ (List.mem_cons_self ..)))
  have h3 := hf _ (List.mem_cons_of_mem _ (List.mem_cons_of_mem _ (List.mem_cons_of_mem _ (List.mem_cons_self ..))))
  rw [show Tryz.prog.cellsOf 53 = 1 by kernel_rfl] at h0 h1 h2 h3
  obtain ⟨y0, e0, g0⟩ := inT_u32c h0
  obtain ⟨y1, e1, g1⟩ := inT_u32c h1
  obtain ⟨y2, e2, g2⟩ := inT_u32c h2
  obtain ⟨y3, e3, g3⟩ := inT_u32c h3
  simp at e0 e1 e2 e3
  exact ⟨⟨y0, y1, y2, y3⟩, by rw [e0, e1, e2, e3], g0, g1, g2, g3⟩
end Go.Proofs.YtechkfopkpkigaaGreat
namespace Go.Proofs.YtechkfopkpkigaaGreat
open Go.ChangeShapes Go.WideShapes Go.ChangeAt Go.RowKit
set_option linter.unusedSimpArgs false
set_option linter.unusedVariables false
variable {W : World} {v : Value}
theorem inT_strs {fuel : Nat} {l : List Value} (h : InT Tryz.prog W fuel 9 l) : ∃ s : ByteArray, l = [sV s] ∧ s.size < 9223372036854775808 := by
  obtain ⟨s, rfl, h1⟩ := inT_str Tryz.underlying9 h
  exact ⟨s, rfl, by simp only [maxLen] at h1; omega⟩
theorem ty_strs (h : Ty Tryz.prog W 97 v) : ∃ a c xs, v = .slice a (List.length (α := ByteArray) xs) c ∧ xs.length < 9223372036854775808 ∧ SlB W a 1 (fun s => [sV s]) xs ∧ ∀ s ∈ xs, s.size < 9223372036854775808 := by
  obtain ⟨a, c, xs, rfl, h1, h2, h3, h4⟩ := ty_sliceF (f := fun s => [sV s]) (Q := fun s => s.size < 9223372036854775808) 1 Tryz.underlying97 (by kernel_rfl) (by decide) (fun fuel r h => inT_strs h) h
  exact ⟨a, c, xs, rfl, by simp only [maxLen] at h2; omega, h3, h4⟩
theorem list5n {l : List Value} (h : l.length = 5) : ∃ a b c d e, l = [a, b, c, d, e] := by
  match l, h with
  | [a, b, c, d, e], _ => exact ⟨a, b, c, d, e, rfl⟩
def BtOk (W : World) (y : Bts) : Prop := SlB W y.1 1 (fun x => [bV x]) y.2.2 ∧ By y.2.2 ∧ y.2.2.length < 9223372036854775808
theorem inT_bts {fuel : Nat} {l : List Value} (h : InT Tryz.prog W fuel 76 l) : ∃ y : Bts, l = btV y ∧ BtOk W y := by
  obtain ⟨a, c, xs, rfl, h1, h2, h3⟩ := inT_bytesB h
  exact ⟨(a, c, xs), rfl, h2, h3, h1⟩
theorem ty_guest27 (h : Ty Tryz.prog W 87 v) : ∃ g : Gst, v = .agg (gstV g).toArray ∧ ∀ A, GOk (OwnP W A) g := by
  obtain ⟨l, rfl, fuel, hI⟩ := ty_struct Tryz.underlying87 h
  obtain ⟨hl, f', hf⟩ := inT_struct Tryz.underlying87 hI
  obtain ⟨x0, x1, x2, x3, x4, rfl⟩ := list5n (hl.trans (by kernel_rfl))
  have h0 := hf _ (List.mem_cons_self ..)
  have h1 := hf _ (List.mem_cons_of_mem _ (List.mem_cons_self ..))
  have h2 := hf _ (List.mem_cons_of_mem _ (List.mem_cons_of_mem _ (List.mem_cons_self ..)))
  have h3 := hf _ (List.mem_cons_of_mem _ (List.mem_cons_of_mem _ (List.mem_cons_of_mem _ (List.mem_cons_self ..))))
  have h4 := hf _ (List.mem_cons_of_mem _ (List.mem_cons_of_mem _ (List.mem_cons_of_mem _ (List.mem_cons_of_mem _ (List.mem_cons_self ..)))))
  rw [show Tryz.prog.cellsOf 43 = 1 by kernel_rfl] at h0
  rw [show Tryz.prog.cellsOf 76 = 1 by kernel_rfl] at h1
  rw [show Tryz.prog.cellsOf 84 = 1 by kernel_rfl] at h2
  rw [show Tryz.prog.cellsOf 85 = 1 by kernel_rfl] at h3
  rw [show Tryz.prog.cellsOf 53 = 1 by kernel_rfl] at h4
  obtain ⟨a0, c0, L, e0, p0, q0, r0, s0⟩ := inT_sliceF (f := dsV) (Q := Dsc.ok) 4 Tryz.underlying43 (by kernel_rfl) (by decide) (fun fuel r h => inT_desc h) h0
  obtain ⟨a1, c1, H, e1, q1, r1, s1⟩ := inT_bytesB h1
  obtain ⟨a2, c2, A, e2, p2, q2, r2, s2⟩ := inT_sliceF (f := fun x => [wV x]) (Q := fun x => x < 4294967296) 1 Tryz.underlying84 (by kernel_rfl) (by decide) (fun fuel r h => inT_u32c h) h2
  obtain ⟨a3, c3, B, e3, p3, q3, r3, s3⟩ := inT_sliceF (f := btV) (Q := BtOk W) 1 Tryz.underlying85 (by kernel_rfl) (by decide) (fun fuel r h => inT_bts h) h3
  obtain ⟨w, e4, s4⟩ := inT_u32c h4
  simp at e0 e1 e2 e3 e4
  refine ⟨⟨a0, c0, L, a1, c1, H, a2, c2, A, a3, c3, B, w⟩, by rw [e0, e1, e2, e3, e4], fun R => ⟨sla_base r0, s0, sla_base r1, s1, sla_base r2, s2, sla_base r3, fun y hy => ?_, s4, ?_, q1, ?_, ?_⟩⟩
  · obtain ⟨k1, k2, k3⟩ := s3 y hy
    exact ⟨sla_base k1, k2, k3⟩
  · simp only [maxLen] at q0; show L.length < _; omega
  · simp only [maxLen] at q2; show A.length < _; omega
  · simp only [maxLen] at q3; show B.length < _; omega
end Go.Proofs.YtechkfopkpkigaaGreat
