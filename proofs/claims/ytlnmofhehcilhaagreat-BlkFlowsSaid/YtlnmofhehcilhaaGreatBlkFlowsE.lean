/-
  Part 5 of the proof of BlkFlows: rules, and walks of functions. Conditions: none.
-/
import Derived.Test.YtlnmofhehcilhaaGreatBlkFlowsD
namespace Go.Proofs.YtlnmofhehcilhaaGreat
open Go.RowKit
set_option linter.unusedSimpArgs false
set_option linter.unusedVariables false
set_option maxRecDepth 20000
def oldV (x : Dk) (j : Nat) : List Value := (List.range j).map fun i => .string (strB (secD x.ss i))
theorem oldV_len (x : Dk) (j : Nat) : (oldV x j).length = j := by simp [oldV]
theorem oldV_succ (x : Dk) (j : Nat) : oldV x (j + 1) = oldV x j ++ [.string (strB (secD x.ss j))] := by simp [oldV, List.range_succ]
theorem oldV_get (x : Dk) {j i : Nat} (h : i < j) : (oldV x j)[i]? = some (.string (strB (secD x.ss i))) := by simp [oldV, h]
theorem lb_row {rs : List Rn} {k x : Dk} (hk : dkNew rs = some k) (h1 : x.rs = k.rs) (h2 : x.lb = k.lb) {i w : Int} (h : lbW x i = some w) : ∃ kk : Nat, ∃ hkk : kk < rs.length, whR x.rs 32 i = some (kk : Int) ∧ w = rs[kk].1 := by
  have hok := dkNew_ok hk
  have hlb := dkNew_lb hk
  unfold lbW at h
  cases e : whR x.rs 32 i with
  | none => rw [e] at h; cases h
  | some r =>
    rw [e] at h
    cases h
    have hr : whF k.rs i = some r := by
      unfold whR at e
      split at e
      · cases e
      · rw [← h1]; exact e
    have := hok.wh i r hr
    rw [hlb, List.length_map] at this
    have hlt : r.toNat < rs.length := by omega
    refine ⟨r.toNat, hlt, by rw [Int.toNat_of_nonneg this.1], ?_⟩
    rw [h2, hlb]; simp [List.getD, hlt]
theorem BlkFlows_none (W0 : World) (g : Gst) (hg : ∀ A, GOk (OwnP W0 A) g) (ar : Option Addr) (cr : Nat) (rs : List Rn) (hrs : SlB W0 ar 3 rgnV rs) (hrl : rs.length < 9223372036854775808) (af ao : Option Addr) (nf cf no co who : Nat) (hw : who < 256) (hN : dkNew rs = none) :
    Spec Tryz.prog W0 8 [.agg (gstV g).toArray, .slice ar rs.length cr, .slice af nf cf, .slice ao no co, .int .u8 who] [] (fun v B => v = .bool true ∧ B = []) := by
  refine spec_body Tryz.func8 Tryz.ntmps8 rfl rfl ?_
  refine x_seq (x_region (s_do rfl (d_boxA rfl) ?_))
  rintro _ _ ⟨b3, rfl, rfl⟩
  refine s_val rfl (v_assign rfl) (x_nil (n_then (x_seq (x_region (s_val rfl (v_move rfl) ?_)))))
  refine s_val rfl (v_rem rfl rfl (by decide) (tmodN who 8)) ?_
  refine s_val rfl (v_conv Tryz.underlying5 Tryz.underlying3 rfl (w64 (by omega))) ?_
  refine s_val rfl (v_assign rfl) (x_nil (n_then (x_seq (x_region (s_val rfl (v_move rfl) (s_do rfl (d_call Tryz.call43 rfl (dkNew_spec W0 _ ar cr rs (sla_base hrs) hrl)) ?_))))))
  rintro _ B_ ⟨p1, Y1, rfl, hB_, hno, _⟩
  obtain rfl := hB_.symm
  obtain ⟨rfl, rfl⟩ := hno hN
  rw [hN]
  simp only [List.nil_append]
  refine s_val rfl (v_move rfl) (s_val rfl (v_extract rfl rfl) (s_val rfl (v_extract rfl rfl) (s_val rfl (v_assign rfl) (s_val rfl (v_assign rfl) (x_nil (n_then (x_seq (x_region (s_val rfl (v_move rfl) (s_do rfl (d_call Tryz.call43 rfl (dkNew_spec W0 _ ar cr rs (sla_base hrs) hrl)) ?_))))))))))
  rintro _ B_ ⟨p1, Y1, rfl, hB_, hno, _⟩
  obtain rfl := hB_.symm
  obtain ⟨rfl, rfl⟩ := hno hN
  rw [hN]
  simp only [List.nil_append]
  refine s_val rfl (v_move rfl) (s_val rfl (v_extract rfl rfl) (s_val rfl (v_extract rfl rfl) (s_val rfl (v_assign rfl) (s_val rfl (v_assign rfl) (x_nil (n_then (x_seq (x_region (s_val rfl (v_loadAll Tryz.isAgg100 Tryz.sizeOf100 rfl rfl) ?_)))))))))
  refine s_do rfl (d_call Tryz.call44 rfl (made25_spec W0 _ g (hg _) fit27)) ?_
  rintro _ B_ ⟨pv, ps, pm, qv, qs, qm, bq, br, rfl, hB_⟩
  obtain rfl := hB_.symm
  refine s_val rfl (v_move rfl) (s_val rfl (v_extract rfl rfl) (s_val rfl (v_extract rfl rfl) (s_val rfl (v_extract rfl rfl) (s_val rfl (v_extract rfl rfl) (s_val rfl (v_assign rfl) (s_val rfl (v_assign rfl) (s_val rfl (v_assign rfl) (s_val rfl (v_assign rfl) (x_nil (n_then (x_seq (x_region (s_val rfl (v_loadAll Tryz.isAgg100 Tryz.sizeOf100 rfl rfl) ?_)))))))))))))
  refine s_do rfl (d_call Tryz.call44 rfl (made25_spec W0 _ g (hg _) fit27)) ?_
  rintro _ B_ ⟨pv2, ps2, pm2, qv2, qs2, qm2, bq2, br2, rfl, hB_⟩
  obtain rfl := hB_.symm
  refine s_val rfl (v_move rfl) (s_val rfl (v_extract rfl rfl) (s_val rfl (v_extract rfl rfl) (s_val rfl (v_extract rfl rfl) (s_val rfl (v_extract rfl rfl) (s_val rfl (v_assign rfl) (s_val rfl (v_assign rfl) (s_val rfl (v_assign rfl) (s_val rfl (v_assign rfl) (x_nil (n_then (x_seq (x_seq (x_region (s_val rfl (v_move rfl) (s_val rfl (v_eql_ptr_nil Tryz.underlying51 rfl rfl) (s_val rfl (v_move rfl) ?_))))))))))))))))
  refine s_or rfl rfl rfl ?_ ?_
  · intro g6_3
    cases g6_3
  · intro g6_3
    refine s_val rfl (v_move rfl) (s_yes rfl rfl (s_val rfl (v_eql_ptr_nil Tryz.underlying51 rfl rfl) (s_val rfl (v_pick_f rfl rfl) (s_val rfl (v_move rfl) ?_))))
    refine s_or rfl rfl rfl ?_ ?_
    · intro g6_7
      cases g6_7
    · intro g6_7
      refine s_val rfl (v_move rfl) (s_yes rfl rfl (s_val rfl (v_move rfl) (s_yes rfl rfl (s_val rfl (v_neq rfl rfl) (s_val rfl (v_pick_f rfl rfl) (x_nil (n_then ?_)))))))
      refine x_if rfl ?_ ?_
      · intro c6
        exact absurd rfl c6
      · intro c6
        refine x_skip (n_then (x_seq (x_seq (x_region (s_val rfl (v_move rfl) (s_val rfl (v_eql_ptr_nil Tryz.underlying93 rfl rfl) (s_val rfl (v_move rfl) ?_)))))))
        refine s_or rfl rfl rfl ?_ ?_
        · intro g8_3
          refine s_no rfl rfl rfl rfl (s_val rfl (v_pick_t rfl rfl) (x_nil (n_then (x_ift rfl (x_seq (x_region (s_val rfl (v_move rfl) (s_val rfl (v_neq rfl rfl) (s_val rfl (v_move rfl) ?_)))))))))
          refine s_and rfl rfl rfl ?_ ?_
          · intro g9_3
            refine s_do rfl (d_call Tryz.call48 rfl (awake25_spec W0 _)) ?_
            rintro _ B_ ⟨rfl, hB_⟩
            obtain rfl := hB_.symm
            refine s_val rfl (v_pick_t rfl rfl) (s_val rfl (v_assign rfl) (x_nil (n_then (x_ret (r_then (x_done (.inl rfl) (.cons (r_tmp rfl) .nil) ?_))))))
            exact ⟨_, ⟨rfl, rfl⟩, inferInstance⟩
          · intro g9_3
            exact absurd (by decide) g9_3
        · intro g8_3
          exact absurd rfl g8_3
theorem BlkFlows_some (W0 : World) (g : Gst) (hg : ∀ A, GOk (OwnP W0 A) g) (ar : Option Addr) (cr : Nat) (rs : List Rn) (hrs : SlB W0 ar 3 rgnV rs) (hrl : rs.length < 9223372036854775808) (af : Option Addr) (cf : Nat) (fs : List ByteArray) (hfs : SlB W0 af 1 (fun s => [sV s]) fs) (hfl : fs.length < 9223372036854775808) (ao : Option Addr) (co : Nat) (os : List ByteArray) (hos : SlB W0 ao 1 (fun s => [sV s]) os) (hol : os.length < 9223372036854775808) (who : Nat) (hw : who < 256) (k : Dk) (hk : dkNew rs = some k) :
    Spec Tryz.prog W0 8 [.agg (gstV g).toArray, .slice ar rs.length cr, .slice af fs.length cf, .slice ao os.length co, .int .u8 who] [] (fun v B => v = .bool true ∧ B = []) := by
  have hk0 := dkNew_ok hk
  refine spec_body Tryz.func8 Tryz.ntmps8 rfl rfl ?_
  refine x_seq (x_region (s_do rfl (d_boxA rfl) ?_))
  rintro _ _ ⟨b3, rfl, rfl⟩
  refine s_val rfl (v_assign rfl) (x_nil (n_then (x_seq (x_region (s_val rfl (v_move rfl) ?_)))))
  refine s_val rfl (v_rem rfl rfl (by decide) (tmodN who 8)) ?_
  refine s_val rfl (v_conv Tryz.underlying5 Tryz.underlying3 rfl (w64 (by omega))) ?_
  refine s_val rfl (v_assign rfl) (x_nil (n_then (x_seq ?_)))
  obtain ⟨l, hl⟩ : ∃ l : Int, ((who % 8 : Nat) : Int) = l := ⟨_, rfl⟩
  rw [hl]
  refine x_region (s_val rfl (v_move rfl) (s_do rfl (d_call Tryz.call43 rfl (dkNew_spec W0 _ ar cr rs (sla_base hrs) hrl)) ?_))
  rintro _ B_ ⟨p1, Y1, rfl, hB_, _, hye⟩
  obtain rfl := hB_.symm
  obtain ⟨d1, rfl, rfl⟩ := hye _ hk
  rw [hk]
  simp only [List.cons_append, List.nil_append, Option.isSome_some, if_true]
  refine s_val rfl (v_move rfl) (s_val rfl (v_extract rfl rfl) (s_val rfl (v_extract rfl rfl) (s_val rfl (v_assign rfl) (s_val rfl (v_assign rfl) (x_nil (n_then (x_seq (x_region (s_val rfl (v_move rfl) (s_do rfl (d_call Tryz.call43 rfl (dkNew_spec W0 _ ar cr rs (sla_base hrs) hrl)) ?_))))))))))
  rintro _ B_ ⟨p2, Y2, rfl, hB_, _, hye⟩
  obtain rfl := hB_.symm
  obtain ⟨d2, rfl, rfl⟩ := hye _ hk
  rw [hk]
  simp only [List.cons_append, List.nil_append, Option.isSome_some, if_true]
  refine s_val rfl (v_move rfl) (s_val rfl (v_extract rfl rfl) (s_val rfl (v_extract rfl rfl) (s_val rfl (v_assign rfl) (s_val rfl (v_assign rfl) (x_nil (n_then (x_seq (x_region (s_val rfl (v_loadAll Tryz.isAgg100 Tryz.sizeOf100 rfl rfl) ?_)))))))))
  refine s_do rfl (d_call Tryz.call44 rfl (made25_spec W0 _ g (hg _) fit27)) ?_
  rintro _ B_ ⟨pv, ps, pm, qv, qs, qm, bq, br, rfl, hB_⟩
  obtain rfl := hB_.symm
  refine s_val rfl (v_move rfl) (s_val rfl (v_extract rfl rfl) (s_val rfl (v_extract rfl rfl) (s_val rfl (v_extract rfl rfl) (s_val rfl (v_extract rfl rfl) (s_val rfl (v_assign rfl) (s_val rfl (v_assign rfl) (s_val rfl (v_assign rfl) (s_val rfl (v_assign rfl) (x_nil (n_then (x_seq (x_region (s_val rfl (v_loadAll Tryz.isAgg100 Tryz.sizeOf100 rfl rfl) ?_)))))))))))))
  refine s_do rfl (d_call Tryz.call44 rfl (made25_spec W0 _ g (hg _) fit27)) ?_
  rintro _ B_ ⟨pv2, ps2, pm2, qv2, qs2, qm2, bq2, br2, rfl, hB_⟩
  obtain rfl := hB_.symm
  have hM := mk27_ok g
  generalize mk27 g = x at hM ⊢
  refine s_val rfl (v_move rfl) (s_val rfl (v_extract rfl rfl) (s_val rfl (v_extract rfl rfl) (s_val rfl (v_extract rfl rfl) (s_val rfl (v_extract rfl rfl) (s_val rfl (v_assign rfl) (s_val rfl (v_assign rfl) (s_val rfl (v_assign rfl) (s_val rfl (v_assign rfl) (x_nil (n_then (x_seq (x_seq (x_region (s_val rfl (v_move rfl) (s_val rfl (v_eql_ptr_nil Tryz.underlying51 rfl rfl) (s_val rfl (v_move rfl) ?_))))))))))))))))
  refine s_or rfl rfl rfl ?_ ?_
  · intro g6_3
    cases g6_3
  · intro g6_3
    refine s_val rfl (v_move rfl) (s_yes rfl rfl (s_val rfl (v_eql_ptr_nil Tryz.underlying51 rfl rfl) (s_val rfl (v_pick_f rfl rfl) (s_val rfl (v_move rfl) ?_))))
    refine s_or rfl rfl rfl ?_ ?_
    · intro g6_7
      cases g6_7
    · intro g6_7
      refine s_val rfl (v_move rfl) (s_yes rfl rfl (s_val rfl (v_move rfl) (s_yes rfl rfl (s_val rfl (v_neq rfl rfl) (s_val rfl (v_pick_f rfl rfl) (x_nil (n_then ?_)))))))
      refine x_if rfl ?_ ?_
      · intro c6
        exact absurd rfl c6
      · intro c6
        refine x_skip (n_then (x_seq (x_seq (x_region (s_val rfl (v_move rfl) (s_val rfl (v_eql_ptr_nil Tryz.underlying93 rfl rfl) (s_val rfl (v_move rfl) ?_)))))))
        refine s_or rfl rfl rfl ?_ ?_
        · intro g8_3
          cases g8_3
        · intro g8_3
          refine s_val rfl (v_move rfl) (s_yes rfl rfl (s_val rfl (v_eql_ptr_nil Tryz.underlying93 rfl rfl) (s_val rfl (v_pick_f rfl rfl) (x_nil (n_then ?_)))))
          refine x_if rfl ?_ ?_
          · intro c8
            cases c8
          · intro c8
            refine x_skip (n_then ?_)
            refine x_cut (fun X : Dk × Dk => Alike l X.1 X.2 ∧ DkOk X.1 ∧ DkOk X.2 ∧ X.1.rs = k.rs ∧ X.1.lb = k.lb) (fun X => [(1, .slice ar rs.length cr), (11, .int .i64 l), (12, .pointer (some ⟨d1, 0, none⟩)), (14, .pointer (some ⟨d2, 0, none⟩)), (16, .pointer (some ⟨pv, 0, none⟩)), (17, .pointer (some ⟨bq, 0, none⟩)), (20, .pointer (some ⟨pv2, 0, none⟩)), (21, .pointer (some ⟨bq2, 0, none⟩))]) (fun X => dkH d1 X.1 :: dkH d2 X.2 :: pt bq (qO true q27) :: pt bq2 (qO true q27) :: vwW pv ps pm x.2 x.1 (pg23 8) (vwW pv2 ps2 pm2 x.2 x.1 (pg23 8) [])) ?_ ?_
            · skip
              refine x_seq (x_region (s_val rfl (v_assign rfl) (x_nil (n_then (x_block ?_)))))
              refine x_loop (fun X : Nat × Dk × Dk => X.1 ≤ 32 ∧ Alike l X.2.1 X.2.2 ∧ DkOk X.2.1 ∧ DkOk X.2.2 ∧ X.2.1.rs = k.rs ∧ X.2.1.lb = k.lb) (fun X => [(1, .slice ar rs.length cr), (2, .slice af fs.length cf), (3, .slice ao os.length co), (11, .int .i64 l), (12, .pointer (some ⟨d1, 0, none⟩)), (14, .pointer (some ⟨d2, 0, none⟩)), (16, .pointer (some ⟨pv, 0, none⟩)), (17, .pointer (some ⟨bq, 0, none⟩)), (20, .pointer (some ⟨pv2, 0, none⟩)), (21, .pointer (some ⟨bq2, 0, none⟩)), (24, .int .i64 X.1)]) (fun X => dkH d1 X.2.1 :: dkH d2 X.2.2 :: pt bq (qO true q27) :: pt bq2 (qO true q27) :: vwW pv ps pm x.2 x.1 (pg23 8) (vwW pv2 ps2 pm2 x.2 x.1 (pg23 8) [])) (fun X => 32 - X.1) (0, k, k) ?_ ?_ ?_ ?_
              · exact ⟨Nat.zero_le _, Alike.refl l k, hk0, hk0, rfl, rfl⟩
              · repeat (first | exact sub_nil | refine sub_cons rfl ?_)
              · exact inferInstance
              · intro ⟨i, x1, x2⟩ ⟨hi, hal, hx1, hx2, hrs1, hlb1⟩
                dsimp only at hi hal hx1 hx2 hrs1 hlb1 ⊢
                refine x_seq (x_seq (x_region (s_val rfl (v_move rfl) (s_val rfl (v_lss rfl rfl) (x_nil (n_then ?_))))))
                refine x_if rfl ?_ ?_
                · intro c11
                  refine x_skip (n_then (x_seq (x_block (x_seq (x_region (s_val rfl (v_assign rfl) (x_nil (n_then (x_seq (x_region (s_val rfl (v_assign rfl) (x_nil (n_then ?_)))))))))))))
                  refine x_cut (fun a : ByteArray => i < 32) (fun a => [(1, .slice ar rs.length cr), (2, .slice af fs.length cf), (3, .slice ao os.length co), (11, .int .i64 l), (12, .pointer (some ⟨d1, 0, none⟩)), (14, .pointer (some ⟨d2, 0, none⟩)), (16, .pointer (some ⟨pv, 0, none⟩)), (17, .pointer (some ⟨bq, 0, none⟩)), (20, .pointer (some ⟨pv2, 0, none⟩)), (21, .pointer (some ⟨bq2, 0, none⟩)), (24, .int .i64 i), (25, .string a), (26, .string a)]) (fun a => dkH d1 x1 :: dkH d2 x2 :: pt bq (qO true q27) :: pt bq2 (qO true q27) :: vwW pv ps pm x.2 x.1 (pg23 8) (vwW pv2 ps2 pm2 x.2 x.1 (pg23 8) [])) ?_ ?_
                  · skip
                    refine x_seq (x_region (s_val rfl (v_move rfl) (s_val rfl (v_move rfl) (s_val rfl (v_len_slice Tryz.underlying50 rfl) (s_val rfl (v_lss rfl rfl) (x_nil (n_then ?_)))))))
                    refine x_if rfl ?_ ?_
                    · intro c15
                      refine x_seq ?_
                      obtain ⟨gf, of, rfl, hcf⟩ := hfs i fs[i] (by simp [show i < fs.length by omega])
                      have hif : i < fs.length := by omega
                      refine x_region (s_val rfl (v_move rfl) (s_val rfl (v_move rfl) ?_))
                      refine s_val rfl (v_idx Tryz.underlying50 Tryz.sizeOf9 rfl rfl rfl hif (by first | exact Nat.zero_add _ | rfl)) ?_
                      refine s_val rfl (v_load Tryz.isAgg9 rfl (Cells.weak (hcf []) 0 _ rfl)) ?_
                      refine s_val rfl (v_assign rfl) (x_nil (n_then (x_region (s_val rfl (v_move rfl) (s_val rfl (v_assign rfl) (x_nil (n_then ?_)))))))
                      refine mid_intro fs[i] ?_ ?_ ?_
                      · omega
                      · repeat (first | exact sub_nil | refine sub_cons rfl ?_)
                      · exact inferInstance
                    · intro c15
                      refine x_skip (n_then ?_)
                      refine mid_intro (⟨#[]⟩ : ByteArray) ?_ ?_ ?_
                      · omega
                      · repeat (first | exact sub_nil | refine sub_cons rfl ?_)
                      · exact inferInstance
                  · intro a hi32
                    refine x_seq (x_region (s_val rfl (v_move rfl) (s_val rfl (v_move rfl) (s_do rfl (d_call1 Tryz.call55 rfl (dkRange_spec W0 _ d1 x1 hx1 (i : Int))) ?_))))
                    rintro _ B_ ⟨rfl, hB_⟩
                    obtain rfl := hB_.symm
                    obtain ⟨o, ho⟩ : ∃ o, whR x1.rs 32 (i : Int) = o := ⟨_, rfl⟩
                    rw [ho]
                    refine s_val rfl (v_move rfl) (s_val rfl (v_extract rfl rfl) (s_val rfl (v_extract rfl rfl) (s_val rfl (v_assign rfl) (s_val rfl (v_assign rfl) (x_nil (n_then ?_))))))
                    refine x_cut (fun b : ByteArray => ∀ w, lbW x1 (i : Int) = some w → flB w l = true → a = b) (fun b => [(1, .slice ar rs.length cr), (2, .slice af fs.length cf), (3, .slice ao os.length co), (11, .int .i64 l), (12, .pointer (some ⟨d1, 0, none⟩)), (14, .pointer (some ⟨d2, 0, none⟩)), (16, .pointer (some ⟨pv, 0, none⟩)), (17, .pointer (some ⟨bq, 0, none⟩)), (20, .pointer (some ⟨pv2, 0, none⟩)), (21, .pointer (some ⟨bq2, 0, none⟩)), (24, .int .i64 i), (25, .string a), (26, .string b)]) (fun b => dkH d1 x1 :: dkH d2 x2 :: pt bq (qO true q27) :: pt bq2 (qO true q27) :: vwW pv ps pm x.2 x.1 (pg23 8) (vwW pv2 ps2 pm2 x.2 x.1 (pg23 8) [])) ?_ ?_
                    · skip
                      refine x_seq (x_region (s_val rfl (v_move rfl) (s_val rfl (v_move rfl) ?_)))
                      refine s_and rfl rfl rfl ?_ ?_
                      · intro g19_2
                        obtain ⟨r, rfl⟩ : ∃ r, o = some r := Option.isSome_iff_exists.1 g19_2
                        have hlw : lbW x1 (i : Int) = some (x1.lb.getD r.toNat 0) := by rw [lbW, ho]; rfl
                        obtain ⟨kk, hkk, e1, e2⟩ := lb_row hk hrs1 hlb1 hlw
                        obtain rfl : r = (kk : Int) := by rw [ho] at e1; exact Option.some.inj e1
                        obtain ⟨gr, og, rfl, hcr⟩ := hrs kk rs[kk] (by simp [hkk])
                        simp only [Option.getD_some]
                        refine s_val rfl (v_move rfl) (s_yes rfl rfl (s_val rfl (v_move rfl) (s_yes rfl rfl (s_val rfl (v_len_slice Tryz.underlying23 rfl) (s_yes rfl rfl (s_val rfl (v_lss rfl rfl) (s_val rfl (v_pick_t rfl rfl) (s_val rfl (v_move rfl) ?_))))))))
                        refine s_and rfl rfl rfl ?_ ?_
                        · intro g19_8
                          refine s_val rfl (v_move rfl) (s_yes rfl rfl (s_val rfl (v_move rfl) (s_yes rfl rfl ?_)))
                          refine s_val rfl (v_idx Tryz.underlying23 Tryz.sizeOf97 rfl rfl rfl hkk (by first | exact Nat.zero_add _ | rfl)) ?_
                          refine s_yes rfl rfl ?_
                          refine s_val rfl (v_fieldAddr rfl Tryz.underlying97 rfl Tryz.sizeOf3 rfl (by first | exact Nat.zero_add _ | rfl)) ?_
                          refine s_yes rfl rfl (s_val rfl (v_load Tryz.isAgg3 rfl (Cells.weak (hcr []) 0 _ rfl)) ?_)
                          refine s_yes rfl rfl (s_val rfl (v_move rfl) (s_yes rfl rfl (s_do rfl (d_call Tryz.call56 rfl (lbFlows_spec W0 _ rs[kk].1 l)) ?_)))
                          rintro _ B_ ⟨rfl, hB_⟩
                          obtain rfl := hB_.symm
                          refine s_yes rfl rfl (s_val rfl (v_not rfl) (s_val rfl (v_pick_t rfl rfl) (s_val rfl (v_move rfl) ?_)))
                          refine s_and rfl rfl rfl ?_ ?_
                          · intro g19_18
                            refine s_val rfl (v_move rfl) (s_yes rfl rfl (s_val rfl (v_move rfl) (s_yes rfl rfl (s_val rfl (v_len_slice Tryz.underlying50 rfl) (s_yes rfl rfl (s_val rfl (v_lss rfl rfl) (s_val rfl (v_pick_t rfl rfl) (x_nil (n_then ?_)))))))))
                            refine x_if rfl ?_ ?_
                            · intro c19
                              obtain ⟨go, oo, rfl, hco⟩ := hos i os[i] (by simp [show i < os.length by omega])
                              have hio : i < os.length := by omega
                              refine x_region (s_val rfl (v_move rfl) (s_val rfl (v_move rfl) ?_))
                              refine s_val rfl (v_idx Tryz.underlying50 Tryz.sizeOf9 rfl rfl rfl hio (by first | exact Nat.zero_add _ | rfl)) ?_
                              refine s_val rfl (v_load Tryz.isAgg9 rfl (Cells.weak (hco []) 0 _ rfl)) ?_
                              refine s_val rfl (v_assign rfl) (x_nil (n_then ?_))
                              refine mid_intro os[i] ?_ ?_ ?_
                              · first
                                  | exact fun _ _ _ => rfl
                                  | (intro w hw2 hf; rw [hlw] at hw2; cases hw2; rw [e2] at hf; rw [hf] at g19_18; exact absurd g19_18 (by decide))
                              · repeat (first | exact sub_nil | refine sub_cons rfl ?_)
                              · exact inferInstance
                            · intro c19
                              refine x_skip (n_then ?_)
                              refine mid_intro a ?_ ?_ ?_
                              · first
                                  | exact fun _ _ _ => rfl
                                  | (intro w hw2 hf; rw [hlw] at hw2; cases hw2; rw [e2] at hf; rw [hf] at g19_18; exact absurd g19_18 (by decide))
                              · repeat (first | exact sub_nil | refine sub_cons rfl ?_)
                              · exact inferInstance
                          · intro g19_18
                            refine s_no rfl rfl rfl rfl (s_no rfl rfl rfl rfl (s_no rfl rfl rfl rfl (s_val rfl (v_pick_f rfl rfl) (x_nil (n_then (x_iff rfl (x_skip (n_then ?_))))))))
                            refine mid_intro a ?_ ?_ ?_
                            · first
                                | exact fun _ _ _ => rfl
                                | (intro w hw2 hf; rw [hlw] at hw2; cases hw2; rw [e2] at hf; rw [hf] at g19_18; exact absurd g19_18 (by decide))
                            · repeat (first | exact sub_nil | refine sub_cons rfl ?_)
                            · exact inferInstance
                        · intro g19_8
                          refine s_no rfl rfl rfl rfl (s_no rfl rfl rfl rfl (s_no rfl rfl rfl rfl (s_no rfl rfl rfl rfl (s_no rfl rfl rfl rfl (s_no rfl rfl rfl rfl (s_no rfl rfl rfl rfl (s_val rfl (v_pick_f rfl rfl) (s_val rfl (v_move rfl) (s_no rfl rfl rfl rfl (s_no rfl rfl rfl rfl (s_no rfl rfl rfl rfl (s_no rfl rfl rfl rfl (s_val rfl (v_pick_f rfl rfl) (x_nil (n_then (x_iff rfl (x_skip (n_then ?_))))))))))))))))))
                          refine mid_intro a ?_ ?_ ?_
                          · first
                              | exact fun _ _ _ => rfl
                              | (intro w hw2 hf; rw [hlw] at hw2; cases hw2; rw [e2] at hf; rw [hf] at g19_18; exact absurd g19_18 (by decide))
                          · repeat (first | exact sub_nil | refine sub_cons rfl ?_)
                          · exact inferInstance
                      · intro g19_2
                        refine s_no rfl rfl rfl rfl (s_no rfl rfl rfl rfl (s_no rfl rfl rfl rfl (s_val rfl (v_pick_f rfl rfl) (s_val rfl (v_move rfl) (s_no rfl rfl rfl rfl (s_no rfl rfl rfl rfl (s_no rfl rfl rfl rfl (s_no rfl rfl rfl rfl (s_no rfl rfl rfl rfl (s_no rfl rfl rfl rfl (s_no rfl rfl rfl rfl (s_no rfl rfl rfl rfl (s_val rfl (v_pick_f rfl rfl) (s_val rfl (v_move rfl) (s_no rfl rfl rfl rfl (s_no rfl rfl rfl rfl (s_no rfl rfl rfl rfl (s_no rfl rfl rfl rfl (s_val rfl (v_pick_f rfl rfl) (x_nil (n_then (x_iff rfl (x_skip ?_)))))))))))))))))))))))
                        refine n_then ?_
                        refine mid_intro a ?_ ?_ ?_
                        · first
                            | exact fun _ _ _ => rfl
                            | (intro w hw2 hf; rw [hlw] at hw2; cases hw2; rw [e2] at hf; rw [hf] at g19_18; exact absurd g19_18 (by decide))
                        · repeat (first | exact sub_nil | refine sub_cons rfl ?_)
                        · exact inferInstance
                    · intro b hab
                      refine x_seq (x_region (s_val rfl (v_move rfl) (s_val rfl (v_move rfl) (s_val rfl (v_move rfl) (s_do rfl (d_call1 Tryz.call50 rfl (dkFill_spec W0 _ d1 x1 hx1 (i : Int) a)) ?_)))))
                      rintro _ B_ ⟨rfl, hB_⟩
                      obtain rfl := hB_.symm
                      refine x_nil (n_then (x_region (s_val rfl (v_move rfl) (s_val rfl (v_move rfl) (s_val rfl (v_move rfl) (s_do rfl (d_call1 Tryz.call50 rfl (dkFill_spec W0 _ d2 x2 hx2 (i : Int) b)) ?_))))))
                      rintro _ B_ ⟨rfl, hB_⟩
                      obtain rfl := hB_.symm
                      refine x_nil (n_block (n_then (x_region (s_val rfl (v_move rfl) ?_))))
                      refine s_val rfl (v_add rfl rfl (by first | exact w64 (by omega) | rfl)) ?_
                      refine s_val rfl (v_assign rfl) (x_nil (n_then ?_))
                      refine inv_intro (i + 1, flD x1 i a, flD x2 i b) ?_ ?_ ?_ ?_
                      · exact ⟨by omega, flD_al hal hx1.sl hx2.sl i hab, flD_ok hx1 _ _, flD_ok hx2 _ _, (flD_rs x1 i a).1.trans hrs1, (flD_rs x1 i a).2.trans hlb1⟩
                      · omega
                      · repeat (first | exact sub_nil | refine sub_cons rfl ?_)
                      · exact inferInstance
                · intro c11
                  refine x_exit (e_then (e_then (e_block (n_then ?_))))
                  refine mid_intro (x1, x2) ?_ ?_ ?_
                  · exact ⟨hal, hx1, hx2, hrs1, hlb1⟩
                  · repeat (first | exact sub_nil | refine sub_cons rfl ?_)
                  · exact inferInstance
            · intro ⟨y1, y2⟩ ⟨hal, hx1, hx2, hrs1, hlb1⟩
              refine x_seq ?_
              dsimp only at hal hx1 hx2 hrs1 hlb1 ⊢
              refine x_region (s_val rfl (v_assign rfl) (x_nil (n_then ?_)))
              refine x_cut (fun X : Option Addr × Nat => True) (fun X => [(1, .slice ar rs.length cr), (11, .int .i64 l), (12, .pointer (some ⟨d1, 0, none⟩)), (14, .pointer (some ⟨d2, 0, none⟩)), (16, .pointer (some ⟨pv, 0, none⟩)), (17, .pointer (some ⟨bq, 0, none⟩)), (20, .pointer (some ⟨pv2, 0, none⟩)), (21, .pointer (some ⟨bq2, 0, none⟩)), (29, .slice X.1 32 X.2)]) (fun X => osl 9 1 (.slice X.1 32 X.2) (oldV y1 32) :: dkH d1 y1 :: dkH d2 y2 :: pt bq (qO true q27) :: pt bq2 (qO true q27) :: vwW pv ps pm x.2 x.1 (pg23 8) (vwW pv2 ps2 pm2 x.2 x.1 (pg23 8) [])) ?_ ?_
              · skip
                refine x_seq (x_region (s_val rfl (v_assign rfl) (x_nil (n_then (x_block ?_)))))
                refine x_loop (fun X : Nat × Option Addr × Nat => X.1 ≤ 32) (fun X => [(1, .slice ar rs.length cr), (11, .int .i64 l), (12, .pointer (some ⟨d1, 0, none⟩)), (14, .pointer (some ⟨d2, 0, none⟩)), (16, .pointer (some ⟨pv, 0, none⟩)), (17, .pointer (some ⟨bq, 0, none⟩)), (20, .pointer (some ⟨pv2, 0, none⟩)), (21, .pointer (some ⟨bq2, 0, none⟩)), (29, .slice X.2.1 X.1 X.2.2), (30, .int .i64 X.1)]) (fun X => osl 9 1 (.slice X.2.1 X.1 X.2.2) (oldV y1 X.1) :: dkH d1 y1 :: dkH d2 y2 :: pt bq (qO true q27) :: pt bq2 (qO true q27) :: vwW pv ps pm x.2 x.1 (pg23 8) (vwW pv2 ps2 pm2 x.2 x.1 (pg23 8) [])) (fun X => 32 - X.1) (0, none, 0) ?_ ?_ ?_ ?_
                · exact Nat.zero_le _
                · repeat (first | exact sub_nil | refine sub_cons rfl ?_)
                · exact ent_osl_nil
                · intro ⟨j, aO, cO⟩ hj
                  dsimp only at hj ⊢
                  refine x_seq (x_seq (x_region (s_val rfl (v_move rfl) (s_val rfl (v_lss rfl rfl) (x_nil (n_then ?_))))))
                  refine x_if rfl ?_ ?_
                  · intro c25
                    refine x_skip (n_then (x_seq (x_block (x_seq (x_region (s_val rfl (v_move rfl) (s_val rfl (v_move rfl) ?_)))))))
                    refine s_do rfl (d_call1 Tryz.call53 rfl (dkBytes_spec W0 _ d1 y1 hx1 j (by omega))) ?_
                    rintro _ B_ ⟨bb, rfl, hB_⟩
                    obtain rfl := hB_.symm
                    have hsec := hx1.sec j
                    refine s_val rfl (v_move rfl) (s_val rfl (v_extract rfl rfl) (s_val rfl (v_extract rfl rfl) (s_val rfl (v_assign rfl) (s_val rfl (v_assign rfl) (x_nil (n_then (x_region (s_val rfl (v_move rfl) (s_val rfl (v_move rfl) (s_val rfl (v_bstrSN (bs := secD y1.ss j) Tryz.underlying44 Tryz.underlying5 Tryz.underlying9 rfl hsec.1 (sla_byV (cells_osl (E := 5) (sz := 1) (a := some ⟨bb, 0, none⟩) (n := 16) (c := 16)))) ?_))))))))))
                    refine s_do rfl (d_sliceLit Tryz.underlying50 Tryz.sizeOf9 Tryz.zeroValue9 rfl rfl rfl rfl rfl (by decide) (by decide)) ?_
                    rintro _ _ ⟨bs, rfl, rfl⟩
                    refine s_do rfl (d_append (sz := 1) (by_ := 16) (info := Tryz.t9) Tryz.underlying50 (by kernel_rfl) rfl rfl rfl rfl (by decide) rfl rfl cells_all rfl rfl (by simp only [maxLen]; omega) (by omega)) ?_
                    rintro _ _ ⟨aN, cN, rfl, rfl⟩
                    rw [← oldV_succ]
                    refine s_val rfl (v_assign rfl) (x_nil (n_block (n_then (x_region (s_val rfl (v_move rfl) ?_)))))
                    refine s_val rfl (v_add rfl rfl (by first | exact w64 (by omega) | rfl)) ?_
                    refine s_val rfl (v_assign rfl) (x_nil (n_then ?_))
                    refine inv_intro (j + 1, aN, cN) ?_ ?_ ?_ ?_
                    · show j + 1 ≤ 32; omega
                    · omega
                    · repeat (first | exact sub_nil | refine sub_cons rfl ?_)
                    · exact inferInstance
                  · intro c25
                    obtain rfl : j = 32 := by omega
                    refine x_exit (e_then (e_then (e_block (n_then ?_))))
                    refine mid_intro (aO, cO) ?_ ?_ ?_
                    · trivial
                    · repeat (first | exact sub_nil | refine sub_cons rfl ?_)
                    · exact inferInstance
              · intro ⟨aO, cO⟩ _
                refine x_seq (x_seq (x_region (s_val rfl (v_move rfl) (s_val rfl (v_move rfl) (s_val rfl (v_move rfl) (s_val rfl (v_move rfl) (s_do rfl (d_call5 Tryz.call45 rfl (bkServe25 W0 _ bq pv d1 ps pm l x hM y1 hx1)) ?_)))))))
                rintro _ B_ ⟨z, hz, rfl, hB_⟩
                obtain rfl := hB_.symm
                refine s_val rfl (v_move rfl) (s_val rfl (v_move rfl) (s_val rfl (v_move rfl) (s_val rfl (v_move rfl) (s_do rfl (d_call5 Tryz.call45 rfl (bkServe25 W0 _ bq2 pv2 d2 ps2 pm2 l x hM y2 hx2)) ?_))))
                rintro _ B_ ⟨z2, hz2, rfl, hB_⟩
                obtain rfl := hB_.symm
                have hA := sbGo_al (l := l) (pg := pg23 8) 4 (X := sb25 x y1) (Y := sb25 x y2) ⟨rfl, rfl, rfl, rfl, rfl, rfl, rfl, hal⟩ (sb_start hM hx1) (sb_start hM hx2)
                have hzo := sbGo_ok (pg := pg23 8) (who := l) 4 (sb_start hM hx1)
                have hzk := sbGo_kept (l := l) (pg := pg23 8) 4 (sb_start hM hx1)
                rw [← hz, ← hz2] at hA
                rw [← hz] at hzo hzk
                clear hz hz2
                obtain ⟨f, d, s, xx, c, n, b, w⟩ := z
                obtain ⟨f', d', s', xx', c', n', b', w'⟩ := z2
                obtain ⟨a1, a2, a3, a4, a5, a6, a7, a8⟩ := hA
                obtain ⟨hF, hlen, hd, hqs, hqr, hxx⟩ := hzo
                dsimp only at a1 a2 a3 a4 a5 a6 a7 a8 hF hlen hd hqs hqr hxx hzk
                subst a1; subst a2; subst a3; subst a4; subst a5; subst a6; subst a7
                dsimp only [SbS.v]
                refine s_val rfl (v_neq_agg Tryz.eqGuardType67 rfl rfl (q_struct Tryz.underlying67 Tryz.stoodInHeld67 (qf_scal rfl Tryz.isAgg3 rfl rfl (q_int Tryz.underlying3) (qf_scal rfl Tryz.isAgg3 rfl rfl (q_int Tryz.underlying3) (qf_scal rfl Tryz.isAgg3 rfl rfl (q_int Tryz.underlying3) (qf_scal rfl Tryz.isAgg3 rfl rfl (q_int Tryz.underlying3) qf_nil)))))) ?_
                refine s_val rfl (v_move rfl) ?_
                refine s_or rfl rfl rfl ?_ ?_
                · intro g29_12
                  exact absurd (by simp) g29_12
                · intro g29_12
                  refine s_val rfl (v_move rfl) (s_yes rfl rfl (s_do rfl (d_call1 Tryz.call34 rfl (qState_spec W0 _ bq s)) ?_))
                  rintro _ B_ ⟨rfl, hB_⟩
                  obtain rfl := hB_.symm
                  refine s_yes rfl rfl (s_val rfl (v_move rfl) (s_yes rfl rfl (s_do rfl (d_call1 Tryz.call34 rfl (qState_spec W0 _ bq2 s)) ?_)))
                  rintro _ B_ ⟨rfl, hB_⟩
                  obtain rfl := hB_.symm
                  refine s_yes rfl rfl (s_val rfl (v_neq_agg Tryz.eqGuardType73 rfl rfl (q_struct Tryz.underlying73 Tryz.stoodInHeld73 (qf_gen rfl (part_agg Tryz.isAgg71 Tryz.sizeOf71 TakeL.eq) (part_agg Tryz.isAgg71 Tryz.sizeOf71 TakeL.eq) (q_struct Tryz.underlying71 Tryz.stoodInHeld71 (qf_scal rfl Tryz.isAgg47 rfl rfl (q_int Tryz.underlying47) (qf_scal rfl Tryz.isAgg47 rfl rfl (q_int Tryz.underlying47) (qf_scal rfl Tryz.isAgg47 rfl rfl (q_int Tryz.underlying47) (qf_scal rfl Tryz.isAgg3 rfl rfl (q_int Tryz.underlying3) qf_nil))))) (qf_scal rfl Tryz.isAgg4 rfl rfl (q_bool Tryz.underlying4) (qf_scal rfl Tryz.isAgg3 rfl rfl (q_int Tryz.underlying3) (qf_scal rfl Tryz.isAgg3 rfl rfl (q_int Tryz.underlying3) (qf_scal rfl Tryz.isAgg3 rfl rfl (q_int Tryz.underlying3) qf_nil))))))) ?_)
                  refine s_val rfl (v_pick_f rfl rfl) (x_nil (n_then ?_))
                  refine x_if rfl ?_ ?_
                  · intro c29
                    exact absurd (by simp) c29
                  · intro c29
                    refine x_skip (n_then (x_seq (x_seq (x_region (s_val rfl (v_assign rfl) (x_nil (n_then (x_block ?_))))))))
                    refine x_loop (fun i : Nat => i ≤ 8) (fun i => [(1, .slice ar rs.length cr), (11, .int .i64 l), (12, .pointer (some ⟨d1, 0, none⟩)), (16, .pointer (some ⟨pv, 0, none⟩)), (20, .pointer (some ⟨pv2, 0, none⟩)), (29, .slice aO 32 cO), (33, .int .i64 i)]) (fun i => osl 9 1 (.slice aO 32 cO) (oldV y1 32) :: dkH d1 xx :: vwW pv ps pm d f (pg23 8) (vwW pv2 ps2 pm2 d f (pg23 8) [])) (fun i => 8 - i) 0 ?_ ?_ ?_ ?_
                    · exact Nat.zero_le _
                    · repeat (first | exact sub_nil | refine sub_cons rfl ?_)
                    · exact inferInstance
                    · intro i hi
                      refine x_seq (x_seq (x_region (s_val rfl (v_move rfl) (s_val rfl (v_lss rfl rfl) (x_nil (n_then ?_))))))
                      refine x_if rfl ?_ ?_
                      · intro c32
                        refine x_skip (n_then (x_seq (x_block (x_seq (x_region (s_val rfl (v_move rfl) (s_do rfl (d_call1 Tryz.call35 rfl (viStore_spec W0 _ pv ps pm d)) ?_)))))))
                        rintro _ B_ ⟨rfl, hB_⟩
                        obtain rfl := hB_.symm
                        refine s_val rfl (v_move rfl) ?_
                        refine s_do rfl (d_call1 Tryz.call36 rfl (frBytes_spec W0 _ ps f hF i (by omega))) ?_
                        rintro _ B_ ⟨a3, k3, rfl, hB_⟩
                        obtain rfl := hB_.symm
                        refine s_val rfl (v_move rfl) (s_val rfl (v_extract rfl rfl) (s_val rfl (v_extract rfl rfl) (s_val rfl (v_assign rfl) (s_val rfl (v_assign rfl) (x_nil (n_then (x_seq (x_region (s_val rfl (v_move rfl) (s_do rfl (d_call1 Tryz.call35 rfl (viStore_spec W0 _ pv2 ps2 pm2 d)) ?_))))))))))
                        rintro _ B_ ⟨rfl, hB_⟩
                        obtain rfl := hB_.symm
                        refine s_val rfl (v_move rfl) ?_
                        refine s_do rfl (d_call1 Tryz.call36 rfl (frBytes_spec W0 _ ps2 f hF i (by omega))) ?_
                        rintro _ B_ ⟨a4, k4, rfl, hB_⟩
                        obtain rfl := hB_.symm
                        have hY := (hF.get (f := i) (by omega))
                        refine run_form (E := 5) (sz := 1) (a := a3) (c := k3) (n := 64) (fun hf3 => ?_)
                        refine run_form (E := 5) (sz := 1) (a := a4) (c := k4) (n := 64) (fun hf4 => ?_)
                        generalize hYe : f.getD i [] = Y at hY hf3 hf4 ⊢
                        refine s_val rfl (v_move rfl) (s_val rfl (v_extract rfl rfl) (s_val rfl (v_extract rfl rfl) (s_val rfl (v_assign rfl) (s_val rfl (v_assign rfl) (x_nil (n_then (x_seq (x_region (s_val rfl (v_move rfl) ?_)))))))))
                        refine s_val rfl (v_bstrSN Tryz.underlying44 Tryz.underlying5 Tryz.underlying9 rfl hY.1 (sla_cells hf3 (cells_osl (E := 5) (sz := 1) (a := a3) (n := 64) (c := k3)) (fun _ => rfl) (byV_fm _).symm (by decide))) ?_
                        refine s_val rfl (v_move rfl) ?_
                        refine s_val rfl (v_bstrSN Tryz.underlying44 Tryz.underlying5 Tryz.underlying9 rfl hY.1 (sla_cells hf4 (cells_osl (E := 5) (sz := 1) (a := a4) (n := 64) (c := k4)) (fun _ => rfl) (byV_fm _).symm (by decide))) ?_
                        refine s_val rfl (v_neq_str rfl rfl) (x_nil (n_then ?_))
                        refine x_if rfl ?_ ?_
                        · intro c36
                          exact absurd (by simp) c36
                        · intro c36
                          refine x_skip (n_block (n_then (x_region (s_val rfl (v_move rfl) ?_))))
                          refine s_val rfl (v_add rfl rfl (by first | exact w64 (by omega) | rfl)) ?_
                          refine s_val rfl (v_assign rfl) (x_nil (n_then ?_))
                          refine inv_intro (i + 1) ?_ ?_ ?_ ?_
                          · omega
                          · omega
                          · repeat (first | exact sub_nil | refine sub_cons rfl ?_)
                          · exact inferInstance
                      · intro c32
                        refine x_exit (e_then (e_then (e_block (n_then ?_))))
                        refine x_cut (fun _ : Unit => True) (fun _ => []) (fun _ => []) ?_ ?_
                        · skip
                          refine x_seq (x_region (s_val rfl (v_assign rfl) (x_nil (n_then (x_block ?_)))))
                          refine x_loop (fun i : Nat => i ≤ 32) (fun i => [(1, .slice ar rs.length cr), (11, .int .i64 l), (12, .pointer (some ⟨d1, 0, none⟩)), (29, .slice aO 32 cO), (38, .int .i64 i)]) (fun i => osl 9 1 (.slice aO 32 cO) (oldV y1 32) :: dkH d1 xx :: []) (fun i => 32 - i) 0 ?_ ?_ ?_ ?_
                          · exact Nat.zero_le _
                          · repeat (first | exact sub_nil | refine sub_cons rfl ?_)
                          · exact inferInstance
                          · intro i hi
                            refine x_seq (x_seq (x_region (s_val rfl (v_move rfl) (s_val rfl (v_lss rfl rfl) (s_val rfl (v_move rfl) ?_)))))
                            refine s_and rfl rfl rfl ?_ ?_
                            · intro g39_3
                              refine s_val rfl (v_move rfl) (s_yes rfl rfl (s_val rfl (v_move rfl) (s_yes rfl rfl (s_val rfl (v_len_slice Tryz.underlying50 rfl) (s_yes rfl rfl (s_val rfl (v_lss rfl rfl) (s_val rfl (v_pick_t rfl rfl) (x_nil (n_then ?_)))))))))
                              refine x_if rfl ?_ ?_
                              · intro c39
                                refine x_skip (n_then (x_seq (x_block (x_seq (x_region (s_val rfl (v_move rfl) (s_val rfl (v_move rfl) ?_)))))))
                                refine s_do rfl (d_call1 Tryz.call53 rfl (dkBytes_spec W0 _ d1 xx hxx i (by omega))) ?_
                                rintro _ B_ ⟨bb, rfl, hB_⟩
                                obtain rfl := hB_.symm
                                have hsec := hxx.sec i
                                refine s_val rfl (v_move rfl) (s_val rfl (v_extract rfl rfl) (s_val rfl (v_extract rfl rfl) (s_val rfl (v_assign rfl) (s_val rfl (v_assign rfl) (x_nil (n_then (x_seq (x_region (s_val rfl (v_move rfl) (s_val rfl (v_move rfl) (s_do rfl (d_call1 Tryz.call55 rfl (dkRange_spec W0 _ d1 xx hxx (i : Int))) ?_)))))))))))
                                rintro _ B_ ⟨rfl, hB_⟩
                                obtain rfl := hB_.symm
                                have hdiff := hzk.ss i (by omega)
                                obtain ⟨o, ho⟩ : ∃ o, whR xx.rs 32 (i : Int) = o := ⟨_, rfl⟩
                                rw [ho]
                                have hrow : ∃ (g0 o0 kk : Nat) (vs : List Value), (∀ A, Cells (OwnP W0 A) g0 (o0 + kk * 3) vs) ∧ (∀ w, lbW y1 (i : Int) = some w → ar = some ⟨g0, o0, none⟩ ∧ ∃ hkk : kk < rs.length, o = some (kk : Int) ∧ w = rs[kk].1 ∧ vs = rgnV rs[kk]) := by
                                  cases e : lbW y1 (i : Int) with
                                  | none => exact ⟨0, 0, 0, [], fun A j v hj => by simp at hj, fun w hw => by cases hw⟩
                                  | some w =>
                                    obtain ⟨kk, hkk, e1, e2⟩ := lb_row hk hrs1 hlb1 e
                                    obtain ⟨g0, o0, ha, hc⟩ := hrs kk rs[kk] (by simp [hkk])
                                    refine ⟨g0, o0, kk, rgnV rs[kk], hc, fun w' hw' => ?_⟩
                                    cases hw'
                                    refine ⟨ha, hkk, ?_, e2, rfl⟩
                                    rw [← ho, show xx.rs = y1.rs from hzk.rs]; exact e1
                                obtain ⟨g0, o0, kk, vs, hcv, hrw⟩ := hrow
                                refine run_form (E := 9) (sz := 1) (a := aO) (c := cO) (n := 32) (fun hfO => ?_)
                                obtain ⟨gO, rfl⟩ := form_some hfO (by intro q; have := oldV_len y1 32; rw [q] at this; simp at this)
                                refine s_val rfl (v_move rfl) (s_val rfl (v_extract rfl rfl) (s_val rfl (v_extract rfl rfl) (s_val rfl (v_assign rfl) (s_val rfl (v_assign rfl) (x_nil (n_then (x_seq ?_)))))))
                                refine x_draw [(gO, 0, oldV y1 32), (bb, 0, byV (secD xx.ss i)), (g0, o0 + kk * 3, vs)] 27 mixed rfl (sc_cons (cells_osl (E := 9) (sz := 1) (a := some ⟨gO, 0, none⟩) (n := 32) (c := cO)) (sc_cons (cells_osl (E := 5) (sz := 1) (a := some ⟨bb, 0, none⟩) (n := 16) (c := 16)) (sc_cons (hcv _) sc_end))) (fun hS => ?_)
                                refine d_take 0 rfl rfl (by kernel_rfl) (by kernel_rfl) (by kernel_rfl) rfl hS (v_move rfl) ?_
                                refine d_take 1 rfl rfl (by kernel_rfl) (by kernel_rfl) (by kernel_rfl) rfl hS (v_bstrSN (bs := secD xx.ss i) Tryz.underlying44 Tryz.underlying5 Tryz.underlying9 rfl hsec.1 (sla_byV (cells_sc (k := 1) rfl))) ?_
                                refine d_take 2 rfl rfl (by kernel_rfl) (by kernel_rfl) (by kernel_rfl) rfl hS (v_move rfl) ?_
                                refine d_take 3 rfl rfl (by kernel_rfl) (by kernel_rfl) (by kernel_rfl) rfl hS (v_move rfl) ?_
                                refine d_take 4 rfl rfl (by kernel_rfl) (by kernel_rfl) (by kernel_rfl) rfl hS (v_idx Tryz.underlying50 Tryz.sizeOf9 rfl rfl rfl (by omega) (by first | exact Nat.zero_add _ | rfl)) ?_
                                refine d_take 5 rfl rfl (by kernel_rfl) (by kernel_rfl) (by kernel_rfl) rfl hS (v_load Tryz.isAgg9 rfl (cell_sc0 (k := 0) rfl (by rw [Nat.mul_one]; exact oldV_get y1 (by omega)))) ?_
                                refine d_take 6 rfl rfl (by kernel_rfl) (by kernel_rfl) (by kernel_rfl) rfl hS (v_neq_str rfl rfl) ?_
                                refine d_take 7 rfl rfl (by kernel_rfl) (by kernel_rfl) (by kernel_rfl) rfl hS (v_move rfl) ?_
                                refine x_split (t := 231) rfl ?_ ?_
                                · intro g43_8
                                  have hne : ¬ secD xx.ss i = secD y1.ss i := fun q => by rw [q] at g43_8; simp at g43_8
                                  obtain ⟨w1, hw1, hf1⟩ := hdiff.resolve_left hne
                                  obtain ⟨rfl, hkk, rfl, rfl, rfl⟩ := hrw w1 hw1
                                  simp only [Option.getD_some]
                                  refine d_take 8 rfl rfl (by kernel_rfl) (by kernel_rfl) (by kernel_rfl) rfl hS (v_move rfl) ?_
                                  refine d_take 9 rfl rfl (by kernel_rfl) (by kernel_rfl) (by kernel_rfl) rfl hS (v_not rfl) ?_
                                  refine d_take 10 rfl rfl (by kernel_rfl) (by kernel_rfl) (by kernel_rfl) rfl hS (v_move rfl) ?_
                                  refine x_split (t := 234) rfl ?_ ?_
                                  · intro g43_11
                                    exact absurd g43_11 (by simp)
                                  · intro g43_11
                                    refine d_take 11 rfl rfl (by kernel_rfl) (by kernel_rfl) (by kernel_rfl) rfl hS (v_move rfl) ?_
                                    refine d_take 12 rfl rfl (by kernel_rfl) (by kernel_rfl) (by kernel_rfl) rfl hS (v_move rfl) ?_
                                    refine d_take 13 rfl rfl (by kernel_rfl) (by kernel_rfl) (by kernel_rfl) rfl hS (v_len_slice Tryz.underlying23 rfl) ?_
                                    refine d_take 14 rfl rfl (by kernel_rfl) (by kernel_rfl) (by kernel_rfl) rfl hS (v_geq rfl rfl) ?_
                                    refine d_take 15 rfl rfl (by kernel_rfl) (by kernel_rfl) (by kernel_rfl) rfl hS (v_pick_f rfl rfl) ?_
                                    refine d_take 16 rfl rfl (by kernel_rfl) (by kernel_rfl) (by kernel_rfl) rfl hS (v_move rfl) ?_
                                    refine x_split (t := 240) rfl ?_ ?_
                                    · intro g43_17
                                      exfalso; simp at g43_17; omega
                                    · intro g43_17
                                      refine d_take 17 rfl rfl (by kernel_rfl) (by kernel_rfl) (by kernel_rfl) rfl hS (v_move rfl) ?_
                                      refine d_take 18 rfl rfl (by kernel_rfl) (by kernel_rfl) (by kernel_rfl) rfl hS (v_move rfl) ?_
                                      refine d_take 19 rfl rfl (by kernel_rfl) (by kernel_rfl) (by kernel_rfl) rfl hS (v_move rfl) ?_
                                      refine d_take 20 rfl rfl (by kernel_rfl) (by kernel_rfl) (by kernel_rfl) rfl hS (v_idx Tryz.underlying23 Tryz.sizeOf97 rfl rfl rfl hkk (by first | exact Nat.zero_add _ | rfl)) ?_
                                      refine d_take 21 rfl rfl (by kernel_rfl) (by kernel_rfl) (by kernel_rfl) rfl hS (v_fieldAddr rfl Tryz.underlying97 rfl Tryz.sizeOf3 rfl (by first | exact Nat.zero_add _ | rfl)) ?_
                                      refine d_take 22 rfl rfl (by kernel_rfl) (by kernel_rfl) (by kernel_rfl) rfl hS (v_load Tryz.isAgg3 rfl ((cells_sc (k := 2) rfl) 0 _ rfl)) ?_
                                      refine d_one 23 (by kernel_rfl) rfl rfl (d_call Tryz.call56 rfl (lbFlows_spec W0 _ l rs[kk].1)) rfl ?_; clear hS
                                      rintro _ B_ ⟨rfl, hB_⟩
                                      obtain rfl := hB_.symm
                                      refine ⟨(sc_cons (cells_osl (E := 9) (sz := 1) (a := some ⟨gO, 0, none⟩) (n := 32) (c := cO)) (sc_cons (cells_osl (E := 5) (sz := 1) (a := some ⟨bb, 0, none⟩) (n := 16) (c := 16)) (sc_cons (hcv _) sc_end))), fun hS => ?_⟩
                                      refine d_take 24 rfl rfl (by kernel_rfl) (by kernel_rfl) (by kernel_rfl) rfl hS (v_not rfl) ?_
                                      refine d_take 25 rfl rfl (by kernel_rfl) (by kernel_rfl) (by kernel_rfl) rfl hS (v_pick_f rfl rfl) ?_
                                      refine d_take 26 rfl rfl (by kernel_rfl) (by kernel_rfl) (by kernel_rfl) rfl hS (v_pick_t rfl rfl) ?_
                                      refine d_done (by kernel_rfl) ?_; clear hS
                                      refine n_then ?_
                                      refine x_if rfl ?_ ?_
                                      · intro c43
                                        exact absurd hf1 (by simpa using c43)
                                      · intro c43
                                        refine x_skip (n_block (n_then (x_region (s_val rfl (v_move rfl) ?_))))
                                        refine s_val rfl (v_add rfl rfl (by first | exact w64 (by omega) | rfl)) ?_
                                        refine s_val rfl (v_assign rfl) (x_nil (n_then ?_))
                                        refine inv_intro (i + 1) ?_ ?_ ?_ ?_
                                        · omega
                                        · omega
                                        · repeat (first | exact sub_nil | refine sub_cons rfl ?_)
                                        · exact inferInstance
                                · intro g43_8
                                  refine d_skip 8 rfl rfl (by kernel_rfl) (by kernel_rfl) (by kernel_rfl) rfl hS ?_
                                  refine d_skip 9 rfl rfl (by kernel_rfl) (by kernel_rfl) (by kernel_rfl) rfl hS ?_
                                  refine d_skip 10 rfl rfl (by kernel_rfl) (by kernel_rfl) (by kernel_rfl) rfl hS ?_
                                  refine d_skip 11 rfl rfl (by kernel_rfl) (by kernel_rfl) (by kernel_rfl) rfl hS ?_
                                  refine d_skip 12 rfl rfl (by kernel_rfl) (by kernel_rfl) (by kernel_rfl) rfl hS ?_
                                  refine d_skip 13 rfl rfl (by kernel_rfl) (by kernel_rfl) (by kernel_rfl) rfl hS ?_
                                  refine d_skip 14 rfl rfl (by kernel_rfl) (by kernel_rfl) (by kernel_rfl) rfl hS ?_
                                  refine d_skip 15 rfl rfl (by kernel_rfl) (by kernel_rfl) (by kernel_rfl) rfl hS ?_
                                  refine d_skip 16 rfl rfl (by kernel_rfl) (by kernel_rfl) (by kernel_rfl) rfl hS ?_
                                  refine d_skip 17 rfl rfl (by kernel_rfl) (by kernel_rfl) (by kernel_rfl) rfl hS ?_
                                  refine d_skip 18 rfl rfl (by kernel_rfl) (by kernel_rfl) (by kernel_rfl) rfl hS ?_
                                  refine d_skip 19 rfl rfl (by kernel_rfl) (by kernel_rfl) (by kernel_rfl) rfl hS ?_
                                  refine d_skip 20 rfl rfl (by kernel_rfl) (by kernel_rfl) (by kernel_rfl) rfl hS ?_
                                  refine d_skip 21 rfl rfl (by kernel_rfl) (by kernel_rfl) (by kernel_rfl) rfl hS ?_
                                  refine d_skip 22 rfl rfl (by kernel_rfl) (by kernel_rfl) (by kernel_rfl) rfl hS ?_
                                  refine d_skip 23 rfl rfl (by kernel_rfl) (by kernel_rfl) (by kernel_rfl) rfl hS ?_
                                  refine d_skip 24 rfl rfl (by kernel_rfl) (by kernel_rfl) (by kernel_rfl) rfl hS ?_
                                  refine d_skip 25 rfl rfl (by kernel_rfl) (by kernel_rfl) (by kernel_rfl) rfl hS ?_
                                  refine d_take 26 rfl rfl (by kernel_rfl) (by kernel_rfl) (by kernel_rfl) rfl hS (v_pick_f rfl rfl) ?_
                                  refine d_done (by kernel_rfl) ?_; clear hS
                                  refine n_then (x_iff rfl (x_skip (n_block (n_then (x_region (s_val rfl (v_move rfl) ?_))))))
                                  refine s_val rfl (v_add rfl rfl (by first | exact w64 (by omega) | rfl)) ?_
                                  refine s_val rfl (v_assign rfl) (x_nil (n_then ?_))
                                  refine inv_intro (i + 1) ?_ ?_ ?_ ?_
                                  · omega
                                  · omega
                                  · repeat (first | exact sub_nil | refine sub_cons rfl ?_)
                                  · exact inferInstance
                              · intro c39
                                refine x_exit (e_then (e_then (e_block (n_then ?_))))
                                refine mid_intro () ?_ ?_ ?_
                                · trivial
                                · repeat (first | exact sub_nil | refine sub_cons rfl ?_)
                                · exact inferInstance
                            · intro g39_3
                              refine s_no rfl rfl rfl rfl (s_no rfl rfl rfl rfl (s_no rfl rfl rfl rfl (s_val rfl (v_pick_f rfl rfl) (x_nil (n_then (x_iff rfl (x_exit (e_then (e_then (e_block (n_then ?_)))))))))))
                              refine mid_intro () ?_ ?_ ?_
                              · trivial
                              · repeat (first | exact sub_nil | refine sub_cons rfl ?_)
                              · exact inferInstance
                        · intro _ _
                          refine x_seq (x_region (s_do rfl (d_call Tryz.call48 rfl (awake25_spec W0 _)) ?_))
                          rintro _ B_ ⟨rfl, hB_⟩
                          obtain rfl := hB_.symm
                          refine s_val rfl (v_assign rfl) (x_nil (n_then (x_ret (x_done (.inl rfl) (.cons (r_tmp rfl) .nil) ?_))))
                          exact ⟨_, ⟨rfl, rfl⟩, inferInstance⟩
end Go.Proofs.YtlnmofhehcilhaaGreat
namespace Go.Proofs.YtlnmofhehcilhaaGreat
open Go.ChangeShapes Go.WideShapes Go.ChangeAt Go.RowKit
set_option linter.unusedSimpArgs false
set_option linter.unusedVariables false
theorem own : ownKnob Tryz.prog.godebug = none := by kernel_rfl
theorem laidOut : laidOutB Tryz.prog = true := by kernel_rfl
variable {W : World} {v : Value}
theorem wf_u32 {n : Int} (h : (Lit.int .u32 n).wf = true) : ∃ w : Nat, n = (w : Int) ∧ w < 4294967296 := by
  simp [Lit.wf, IntKind.min, IntKind.max, IntKind.signed, IntKind.bits] at h
  exact ⟨n.toNat, by omega, by omega⟩
theorem wf_u8 {n : Int} (h : (Lit.int .u8 n).wf = true) : ∃ w : Nat, n = (w : Int) ∧ w < 256 := by
  simp [Lit.wf, IntKind.min, IntKind.max, IntKind.signed, IntKind.bits] at h
  exact ⟨n.toNat, by omega, by omega⟩
theorem ty_u8 (h : Ty Tryz.prog W 5 v) : ∃ w : Nat, v = .int .u8 w ∧ w < 256 := by
  obtain ⟨n, rfl, hw⟩ := ty_int Tryz.underlying5 h
  obtain ⟨w, rfl, h'⟩ := wf_u8 hw
  exact ⟨w, rfl, h'⟩
end Go.Proofs.YtlnmofhehcilhaaGreat
namespace Go.Proofs.YtlnmofhehcilhaaGreat
open Go.ChangeShapes Go.WideShapes Go.ChangeAt Go.RowKit
set_option linter.unusedSimpArgs false
set_option linter.unusedVariables false
variable {W : World} {v : Value}
theorem inT_byteB {fuel : Nat} {l : List Value} (h : InT Tryz.prog W fuel 5 l) : ∃ x : Nat, l = [bV x] ∧ x < 256 := by
  obtain ⟨n, rfl, hw⟩ := inT_int Tryz.underlying5 h
  obtain ⟨w, rfl, h'⟩ := wf_u8 hw
  exact ⟨w, rfl, h'⟩
theorem inT_bytesB {fuel : Nat} {l : List Value} (h : InT Tryz.prog W fuel 44 l) : ∃ a c xs, l = [.slice a (List.length (α := Nat) xs) c] ∧ xs.length < 9223372036854775808 ∧ SlB W a 1 (fun x => [bV x]) xs ∧ By xs := by
  obtain ⟨a, c, xs, rfl, h1, h2, h3, h4⟩ := inT_sliceF (f := fun x => [bV x]) (Q := fun x => x < 256) 1 Tryz.underlying44 (by kernel_rfl) (by decide) (fun fuel r h => inT_byteB h) h
  exact ⟨a, c, xs, rfl, by simp only [maxLen] at h2; omega, h3, h4⟩
end Go.Proofs.YtlnmofhehcilhaaGreat
namespace Go.Proofs.YtlnmofhehcilhaaGreat
open Go.ChangeShapes Go.WideShapes Go.ChangeAt Go.RowKit
set_option linter.unusedSimpArgs false
set_option linter.unusedVariables false
variable {W : World} {v : Value}
theorem list4 {l : List Value} (h : l.length = 4) : ∃ a b c d, l = [a, b, c, d] := by
  match l, h with
  | [a, b, c, d], _ => exact ⟨a, b, c, d, rfl⟩
theorem inT_u32c {fuel : Nat} {l : List Value} (h : InT Tryz.prog W fuel 47 l) : ∃ x : Nat, l = [.int .u32 x] ∧ x < 4294967296 := by
  obtain ⟨n, rfl, hw⟩ := inT_int Tryz.underlying47 h
  obtain ⟨w, rfl, h'⟩ := wf_u32 hw
  exact ⟨w, rfl, h'⟩
theorem inT_desc {fuel : Nat} {l : List Value} (h : InT Tryz.prog W fuel 99 l) : ∃ d : Dsc, l = dsV d ∧ d.ok := by
  obtain ⟨hl, f', hf⟩ := inT_struct Tryz.underlying99 h
  obtain ⟨x0, x1, x2, x3, rfl⟩ := list4 (hl.trans (by kernel_rfl))
  have h0 := hf _ (List.mem_cons_self ..)
  have h1 := hf _ (List.mem_cons_of_mem _ (List.mem_cons_self ..))
  have h2 := hf _ (List.mem_cons_of_mem _ (List.mem_cons_of_mem _ (List.mem_cons_self ..)))
  have h3 := hf _ (List.mem_cons_of_mem _ (List.mem_cons_of_mem _ (List.mem_cons_of_mem _ (List.mem_cons_self ..))))
  rw [show Tryz.prog.cellsOf 47 = 1 by kernel_rfl] at h0 h1 h2 h3
  obtain ⟨y0, e0, g0⟩ := inT_u32c h0
  obtain ⟨y1, e1, g1⟩ := inT_u32c h1
  obtain ⟨y2, e2, g2⟩ := inT_u32c h2
  obtain ⟨y3, e3, g3⟩ := inT_u32c h3
  simp at e0 e1 e2 e3
  exact ⟨⟨y0, y1, y2, y3⟩, by rw [e0, e1, e2, e3], g0, g1, g2, g3⟩
end Go.Proofs.YtlnmofhehcilhaaGreat
namespace Go.Proofs.YtlnmofhehcilhaaGreat
open Go.ChangeShapes Go.WideShapes Go.ChangeAt Go.RowKit
set_option linter.unusedSimpArgs false
set_option linter.unusedVariables false
variable {W : World} {v : Value}
theorem inT_strs {fuel : Nat} {l : List Value} (h : InT Tryz.prog W fuel 9 l) : ∃ s : ByteArray, l = [sV s] ∧ s.size < 9223372036854775808 := by
  obtain ⟨s, rfl, h1⟩ := inT_str Tryz.underlying9 h
  exact ⟨s, rfl, by simp only [maxLen] at h1; omega⟩
theorem ty_strs (h : Ty Tryz.prog W 50 v) : ∃ a c xs, v = .slice a (List.length (α := ByteArray) xs) c ∧ xs.length < 9223372036854775808 ∧ SlB W a 1 (fun s => [sV s]) xs ∧ ∀ s ∈ xs, s.size < 9223372036854775808 := by
  obtain ⟨a, c, xs, rfl, h1, h2, h3, h4⟩ := ty_sliceF (f := fun s => [sV s]) (Q := fun s => s.size < 9223372036854775808) 1 Tryz.underlying50 (by kernel_rfl) (by decide) (fun fuel r h => inT_strs h) h
  exact ⟨a, c, xs, rfl, by simp only [maxLen] at h2; omega, h3, h4⟩
theorem list5n {l : List Value} (h : l.length = 5) : ∃ a b c d e, l = [a, b, c, d, e] := by
  match l, h with
  | [a, b, c, d, e], _ => exact ⟨a, b, c, d, e, rfl⟩
def BtOk (W : World) (y : Bts) : Prop := SlB W y.1 1 (fun x => [bV x]) y.2.2 ∧ By y.2.2 ∧ y.2.2.length < 9223372036854775808
theorem inT_bts {fuel : Nat} {l : List Value} (h : InT Tryz.prog W fuel 44 l) : ∃ y : Bts, l = btV y ∧ BtOk W y := by
  obtain ⟨a, c, xs, rfl, h1, h2, h3⟩ := inT_bytesB h
  exact ⟨(a, c, xs), rfl, h2, h3, h1⟩
end Go.Proofs.YtlnmofhehcilhaaGreat
namespace Go.Proofs.YtlnmofhehcilhaaGreat
open Go.ChangeShapes Go.WideShapes Go.ChangeAt Go.RowKit
set_option linter.unusedSimpArgs false
set_option linter.unusedVariables false
variable {W : World} {v : Value}
theorem list3b {l : List Value} (h : l.length = 3) : ∃ a b c, l = [a, b, c] := by
  match l, h with
  | [a, b, c], _ => exact ⟨a, b, c, rfl⟩
theorem ty_guest25 (h : Ty Tryz.prog W 100 v) : ∃ g : Gst, v = .agg (gstV g).toArray ∧ ∀ A, GOk (OwnP W A) g := by
  obtain ⟨l, rfl, fuel, hI⟩ := ty_struct Tryz.underlying100 h
  obtain ⟨hl, f', hf⟩ := inT_struct Tryz.underlying100 hI
  obtain ⟨x0, x1, x2, x3, x4, rfl⟩ := list5n (hl.trans (by kernel_rfl))
  have h0 := hf _ (List.mem_cons_self ..)
  have h1 := hf _ (List.mem_cons_of_mem _ (List.mem_cons_self ..))
  have h2 := hf _ (List.mem_cons_of_mem _ (List.mem_cons_of_mem _ (List.mem_cons_self ..)))
  have h3 := hf _ (List.mem_cons_of_mem _ (List.mem_cons_of_mem _ (List.mem_cons_of_mem _ (List.mem_cons_self ..))))
  have h4 := hf _ (List.mem_cons_of_mem _ (List.mem_cons_of_mem _ (List.mem_cons_of_mem _ (List.mem_cons_of_mem _ (List.mem_cons_self ..)))))
  rw [show Tryz.prog.cellsOf 43 = 1 by kernel_rfl] at h0
  rw [show Tryz.prog.cellsOf 44 = 1 by kernel_rfl] at h1
  rw [show Tryz.prog.cellsOf 45 = 1 by kernel_rfl] at h2
  rw [show Tryz.prog.cellsOf 46 = 1 by kernel_rfl] at h3
  rw [show Tryz.prog.cellsOf 47 = 1 by kernel_rfl] at h4
  obtain ⟨a0, c0, L, e0, p0, q0, r0, s0⟩ := inT_sliceF (f := dsV) (Q := Dsc.ok) 4 Tryz.underlying43 (by kernel_rfl) (by decide) (fun fuel r h => inT_desc h) h0
  obtain ⟨a1, c1, H, e1, q1, r1, s1⟩ := inT_bytesB h1
  obtain ⟨a2, c2, A, e2, p2, q2, r2, s2⟩ := inT_sliceF (f := fun x => [wV x]) (Q := fun x => x < 4294967296) 1 Tryz.underlying45 (by kernel_rfl) (by decide) (fun fuel r h => inT_u32c h) h2
  obtain ⟨a3, c3, B, e3, p3, q3, r3, s3⟩ := inT_sliceF (f := btV) (Q := BtOk W) 1 Tryz.underlying46 (by kernel_rfl) (by decide) (fun fuel r h => inT_bts h) h3
  obtain ⟨w, e4, s4⟩ := inT_u32c h4
  simp at e0 e1 e2 e3 e4
  refine ⟨⟨a0, c0, L, a1, c1, H, a2, c2, A, a3, c3, B, w⟩, by rw [e0, e1, e2, e3, e4], fun R => ⟨sla_base r0, s0, sla_base r1, s1, sla_base r2, s2, sla_base r3, fun y hy => ?_, s4, ?_, q1, ?_, ?_⟩⟩
  · obtain ⟨k1, k2, k3⟩ := s3 y hy
    exact ⟨sla_base k1, k2, k3⟩
  · simp only [maxLen] at q0; show L.length < _; omega
  · simp only [maxLen] at q2; show A.length < _; omega
  · simp only [maxLen] at q3; show B.length < _; omega
theorem inT_rgn {fuel : Nat} {l : List Value} (h : InT Tryz.prog W fuel 97 l) : ∃ x : Rn, l = rgnV x ∧ True := by
  obtain ⟨hl, f', hf⟩ := inT_struct Tryz.underlying97 h
  obtain ⟨a, b, c, rfl⟩ := list3b (hl.trans (by kernel_rfl))
  have h0 := hf _ (List.mem_cons_self ..)
  have h1 := hf _ (List.mem_cons_of_mem _ (List.mem_cons_self ..))
  have h2 := hf _ (List.mem_cons_of_mem _ (List.mem_cons_of_mem _ (List.mem_cons_self ..)))
  rw [show Tryz.prog.cellsOf 3 = 1 by kernel_rfl] at h0 h1 h2
  obtain ⟨x0, e0, _⟩ := inT_int Tryz.underlying3 h0
  obtain ⟨x1, e1, _⟩ := inT_int Tryz.underlying3 h1
  obtain ⟨x2, e2, _⟩ := inT_int Tryz.underlying3 h2
  simp at e0 e1 e2
  exact ⟨(x0, x1, x2), by rw [e0, e1, e2]; rfl, trivial⟩
theorem ty_rgns (h : Ty Tryz.prog W 23 v) : ∃ a c xs, v = .slice a (List.length (α := Rn) xs) c ∧ xs.length < 9223372036854775808 ∧ SlB W a 3 rgnV xs := by
  obtain ⟨a, c, xs, rfl, h1, h2, h3, h4⟩ := ty_sliceF (f := rgnV) (Q := fun _ => True) 3 Tryz.underlying23 (by kernel_rfl) (by decide) (fun fuel r h => inT_rgn h) h
  exact ⟨a, c, xs, rfl, by simp only [maxLen] at h2; omega, h3⟩
end Go.Proofs.YtlnmofhehcilhaaGreat
