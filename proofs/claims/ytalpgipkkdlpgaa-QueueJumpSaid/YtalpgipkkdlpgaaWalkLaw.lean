/-
  Layer 17 (walk): what the laws stand on; the walk of WalkPlays.
-/
import Derived.Test.YtalpgipkkdlpgaaWalkC
import Derived.Test.YtalpgipkkdlpgaaLawB
namespace Go.Proofs.Ytalpgipkkdlpgaa
open Go.RowKit
set_option linter.unusedSimpArgs false
set_option linter.unusedVariables false
set_option maxRecDepth 20000

theorem and1_u16 {a : Nat} (h : a < 65536) : bAnd .u16 (a : Int) 1 = ((a % 2 : Nat) : Int) := by
  show IntKind.wrap .u16 ((BitVec.ofInt 16 (a : Int) &&& BitVec.ofInt 16 ((1 : Nat) : Int)).toNat : Int) = _
  rw [ofInt_nat, ofInt_nat, BitVec.toNat_and, BitVec.toNat_ofNat, BitVec.toNat_ofNat, Nat.mod_eq_of_lt (show a < 2 ^ 16 by omega), Nat.mod_eq_of_lt (show 1 < 2 ^ 16 by decide), Nat.and_one_is_mod]
  simp only [IntKind.wrap, IntKind.bits, IntKind.signed]
  simp
  omega
def pg17 (gone : Nat) : Nat → List Pl
  | 0 => List.replicate 12 (0, 0)
  | i + 1 => if gone / 2 ^ i % 2 = 0 then setP (pg17 gone i) i (((11 - i : Nat) : Int), ((3 - 2 * (i / 9) : Nat) : Int)) else pg17 gone i
theorem pgz17 : Pgs (List.replicate 12 (0, 0)) := ⟨rfl, fun n hn hne => absurd (by
  unfold plAt; rw [List.getD_eq_getElem?_getD, List.getElem?_replicate]; split <;> rfl) hne⟩
theorem pg17_ok (gone : Nat) : ∀ i, Pgs (pg17 gone i)
  | 0 => pgz17
  | i + 1 => by
    rw [pg17]; split
    · exact setP_ok (pg17_ok gone i)
    · exact pg17_ok gone i
abbrev Pt17 := Nat × Nat
@[reducible] def pt17V (t : Pt17) : List Value := [.int .u32 t.1, .int .u32 t.2]
def Pt17Ok (t : Pt17) : Prop := t.1 < 4294967296 ∧ t.2 < 4294967296
def mkS (pg : List Pl) (ts : List Pt17) : Nat → List Frm × Nat
  | 0 => (List.replicate 12 zeros, 0)
  | i + 1 => (vsvF (mkS pg ts i).1 pg (ts.getD i (0, 0)).1 4 (ts.getD i (0, 0)).2, vsvD (mkS pg ts i).1 pg (ts.getD i (0, 0)).1 4 (mkS pg ts i).2)
theorem mkS_ok (pg : List Pl) (ts : List Pt17) : ∀ i, Frs (mkS pg ts i).1 ∧ (mkS pg ts i).1.length = 12 ∧ (mkS pg ts i).2 < 4096
  | 0 => ⟨Frs.new 12, by simp [mkS], by simp [mkS]⟩
  | i + 1 => by
    obtain ⟨h1, h2, h3⟩ := mkS_ok pg ts i
    exact ⟨(vsvF_ok h1).1, (vsvF_ok h1).2.trans h2, vsvD_lt h3⟩
def mk17 (gone : Nat) (ts : List Pt17) : List Frm × Nat := mkS (pg17 gone 10) ts (min ts.length 200)
theorem mk17_ok (gone : Nat) (ts : List Pt17) : Frs (mk17 gone ts).1 ∧ (mk17 gone ts).1.length = 12 ∧ (mk17 gone ts).2 < 4096 := mkS_ok _ _ _
theorem made17_spec (W0 : World) (R : List HP) (gone : Nat) (hg : gone < 65536) (ap : Option Addr) (cp : Nat) (ts : List Pt17) (hts : SlA (OwnP W0 R) ap 2 pt17V ts) (htok : ∀ t ∈ ts, Pt17Ok t) (hl2 : ts.length < 9223372036854775808) :
    Spec Try.prog W0 8 [.int .u16 gone, .slice ap ts.length cp] R
      (fun v B => ∃ pv ps pm qv qs qm, v = .tuple #[.pointer (some ⟨pv, 0, none⟩), .pointer (some ⟨qv, 0, none⟩)] ∧ B = prH pv ps pm qv qs qm (mk17 gone ts).2 (mk17 gone ts).1 (pg17 gone 10) R) := by
  refine spec_body Try.func8 Try.ntmps8 rfl rfl ?_
  refine x_seq ?_
  refine x_region ?_
  refine s_val rfl (v_assign rfl) ?_
  refine s_val rfl (v_assign rfl) ?_
  refine x_nil ?_
  refine n_then ?_
  refine x_seq ?_
  refine x_region ?_
  refine s_do rfl (d_call Try.call31 rfl (frNew_spec W0 _ 12 (by decide))) ?_
  rintro _ B_ ⟨ps, rfl, hB_⟩
  obtain rfl := hB_.symm
  refine s_val rfl (v_move rfl) ?_
  refine s_val rfl (v_extract rfl rfl) ?_
  refine s_val rfl (v_extract rfl rfl) ?_
  refine s_val rfl (v_assign rfl) ?_
  refine s_val rfl (v_assign rfl) ?_
  refine x_nil ?_
  refine n_then ?_
  refine x_seq ?_
  refine x_region ?_
  refine s_do rfl (d_call Try.call32 rfl (gmNew_spec W0 _)) ?_
  rintro _ B_ ⟨pm, rfl, hB_⟩
  obtain rfl := hB_.symm
  refine s_val rfl (v_assign rfl) ?_
  refine x_nil ?_
  refine n_then ?_
  refine x_seq ?_
  refine x_region ?_
  refine s_do rfl (d_call Try.call33 rfl (rfNew_spec W0 _ 12 (by decide))) ?_
  rintro _ B_ ⟨qs, rfl, hB_⟩
  obtain rfl := hB_.symm
  refine s_val rfl (v_move rfl) ?_
  refine s_val rfl (v_extract rfl rfl) ?_
  refine s_val rfl (v_extract rfl rfl) ?_
  refine s_val rfl (v_assign rfl) ?_
  refine s_val rfl (v_assign rfl) ?_
  refine x_nil ?_
  refine n_then ?_
  refine x_seq ?_
  refine x_region ?_
  refine s_val rfl (v_build Try.underlying94 Try.zeroValue94 (sized_cons Try.sizeOf91 (sized_cons Try.sizeOf92 sized_nil)) fil_nil) ?_
  refine s_do rfl (d_boxA rfl) ?_
  rintro _ _ ⟨qm, rfl, rfl⟩
  refine s_val rfl (v_assign rfl) ?_
  refine x_nil ?_
  refine n_then ?_
  refine x_seq ?_
  refine x_seq ?_
  refine run_pt (b := qm) (o' := rgO (List.replicate 12 (0, 0))) rfl ?_
  refine x_region ?_
  refine s_val rfl (v_assign rfl) ?_
  refine x_nil ?_
  refine n_then ?_
  refine x_block ?_
  refine x_loop (fun i : Nat => i ≤ 10) (fun i => [(0, .int .u16 gone), (1, .slice ap ts.length cp), (6, .pointer (some ⟨ps, 0, none⟩)), (8, .pointer (some ⟨pm, 0, none⟩)), (9, .pointer (some ⟨qs, 0, none⟩)), (11, .pointer (some ⟨qm, 0, none⟩)), (12, .int .i64 i)]) (fun i => pt qm (rgO (pg17 gone i)) :: rstoH qs (List.replicate 12 zeros) :: pt pm (gmO (pg17 gone i)) :: stoH ps (List.replicate 12 zeros) :: R) (fun i => 10 - i) 0 ?_ ?_ ?_ ?_
  · exact Nat.zero_le _
  · repeat (first | exact sub_nil | refine sub_cons rfl ?_)
  · simp only [pg17]; exact inferInstance
  · intro i hi
    have hP := pg17_ok gone i
    refine x_seq ?_
    refine x_seq ?_
    refine x_region ?_
    refine s_val rfl (v_move rfl) ?_
    refine s_val rfl (v_lss rfl rfl) ?_
    refine x_nil ?_
    refine n_then ?_
    refine x_if rfl ?_ ?_
    · intro c6
      refine x_skip ?_
      refine n_then ?_
      refine x_seq ?_
      refine x_block ?_
      refine x_seq ?_
      refine x_region ?_
      refine s_val rfl (v_move rfl) ?_
      refine s_val rfl (v_move rfl) ?_
      refine s_val rfl (v_shr rfl rfl (by omega) (bShr_nat (by simp [IntKind.bits]; omega))) ?_
      refine s_val rfl (v_and rfl rfl (and1_u16 (Nat.lt_of_le_of_lt (Nat.div_le_self _ _) hg))) ?_
      refine s_val rfl (v_eql rfl rfl) ?_
      refine x_nil ?_
      refine n_then ?_
      refine x_if rfl ?_ ?_
      · intro c8
        have hs : pg17 gone (i + 1) = setP (pg17 gone i) i (((11 - i : Nat) : Int), ((3 - 2 * (i / 9) : Nat) : Int)) := by rw [pg17, if_pos (by omega)]
        refine x_seq ?_
        refine x_region ?_
        refine s_val rfl (v_move rfl) ?_
        refine s_val rfl (v_sub rfl rfl (by rw [w64 (by omega)]; omega : IntKind.wrap .i64 (11 - (i : Int)) = ((11 - i : Nat) : Int))) ?_
        refine s_val rfl (v_move rfl) ?_
        refine s_val rfl (v_quo rfl rfl (by decide) ((congrArg (IntKind.wrap .i64) (tdivN i 9)).trans (w64 (by omega)))) ?_
        refine s_val rfl (v_mul rfl rfl (by rw [w64 (by omega)]; omega : IntKind.wrap .i64 (2 * ((i / 9 : Nat) : Int)) = ((2 * (i / 9) : Nat) : Int))) ?_
        refine s_val rfl (v_sub rfl rfl (by rw [w64 (by omega)]; omega : IntKind.wrap .i64 (3 - ((2 * (i / 9) : Nat) : Int)) = ((3 - 2 * (i / 9) : Nat) : Int))) ?_
        refine s_val rfl (v_build Try.underlying37 Try.zeroValue37 (sized_cons Try.sizeOf3 (sized_cons Try.sizeOf3 sized_nil)) (fil_scal rfl Try.sizeOf3 rfl rfl (Nat.le_of_ble_eq_true rfl) SetL.eq (fil_scal rfl Try.sizeOf3 rfl rfl (Nat.le_of_ble_eq_true rfl) SetL.eq fil_nil))) ?_
        refine s_do rfl (d_allocA Try.zeroValue37) ?_
        rintro _ _ ⟨b2, rfl, rfl⟩
        refine s_do0 (d_storeAll Try.sizeOf37 rfl rfl rfl rfl rfl) ?_
        rintro _ _ rfl
        refine x_nil ?_
        refine n_then ?_
        refine x_seq ?_
        refine x_region ?_
        refine s_val rfl (v_move rfl) ?_
        refine s_val rfl (v_move rfl) ?_
        refine s_val rfl (v_loadAll Try.isAgg37 Try.sizeOf37 rfl rfl) ?_
        refine s_do rfl (d_call1 Try.call34 rfl (gmSet_spec W0 _ pm _ hP i (((11 - i : Nat) : Int), ((3 - 2 * (i / 9) : Nat) : Int)))) ?_
        rintro _ B_ ⟨rfl, hB_⟩
        obtain rfl := hB_.symm
        refine x_nil ?_
        refine n_then ?_
        refine x_region ?_
        refine s_val rfl (v_move rfl) ?_
        refine s_val rfl (v_move rfl) ?_
        refine s_val rfl (v_loadAll Try.isAgg37 Try.sizeOf37 rfl rfl) ?_
        refine s_do rfl (d_call1 Try.call35 rfl (rgSet_spec W0 _ qm _ hP i (((11 - i : Nat) : Int), ((3 - 2 * (i / 9) : Nat) : Int)))) ?_
        rintro _ B_ ⟨rfl, hB_⟩
        obtain rfl := hB_.symm
        refine x_nil ?_
        refine n_block ?_
        refine n_then ?_
        refine x_region ?_
        refine s_val rfl (v_move rfl) ?_
        refine s_val rfl (v_add rfl rfl (by first | exact w64 (by omega) | rfl)) ?_
        refine s_val rfl (v_assign rfl) ?_
        refine x_nil ?_
        refine n_then ?_
        refine inv_intro (i + 1) ?_ ?_ ?_ ?_
        · omega
        · omega
        · repeat (first | exact sub_nil | refine sub_cons rfl ?_)
        · rw [hs]; exact inferInstance
      · intro c8
        have hs : pg17 gone (i + 1) = pg17 gone i := by rw [pg17, if_neg (by omega)]
        refine x_skip ?_
        refine n_block ?_
        refine n_then ?_
        refine x_region ?_
        refine s_val rfl (v_move rfl) ?_
        refine s_val rfl (v_add rfl rfl (by first | exact w64 (by omega) | rfl)) ?_
        refine s_val rfl (v_assign rfl) ?_
        refine x_nil ?_
        refine n_then ?_
        refine inv_intro (i + 1) ?_ ?_ ?_ ?_
        · omega
        · omega
        · repeat (first | exact sub_nil | refine sub_cons rfl ?_)
        · rw [hs]; exact inferInstance
    · intro c6
      refine x_exit ?_
      refine e_then ?_
      refine e_then ?_
      refine e_block ?_
      refine n_then ?_
      refine x_seq ?_
      obtain rfl : i = 10 := by omega
      have hP := pg17_ok gone 10
      obtain ⟨pg, hpg⟩ : ∃ x, pg17 gone 10 = x := ⟨_, rfl⟩
      rw [hpg] at hP ⊢
      refine x_region ?_
      refine s_val rfl (v_move rfl) ?_
      refine s_val rfl (v_move rfl) ?_
      refine s_do rfl (d_call2 Try.call36 rfl (viNew_spec W0 _ ps pm _ _ hP (by decide))) ?_
      rintro _ B_ ⟨pv, rfl, hB_⟩
      obtain rfl := hB_.symm
      refine s_val rfl (v_move rfl) ?_
      refine s_val rfl (v_extract rfl rfl) ?_
      refine s_val rfl (v_extract rfl rfl) ?_
      refine s_val rfl (v_assign rfl) ?_
      refine s_val rfl (v_assign rfl) ?_
      refine x_nil ?_
      refine n_then ?_
      refine x_seq ?_
      refine x_seq ?_
      refine x_region ?_
      refine s_val rfl (v_move rfl) ?_
      refine s_val rfl (v_neq rfl rfl) ?_
      refine x_nil ?_
      refine n_then ?_
      refine x_if rfl ?_ ?_
      · intro c13
        exact absurd rfl c13
      · intro c13
        refine x_skip ?_
        refine n_then ?_
        refine x_seq ?_
        refine x_region ?_
        refine s_val rfl (v_move rfl) ?_
        refine s_val rfl (v_move rfl) ?_
        refine s_val rfl (v_build Try.underlying100 Try.zeroValue100 (sized_cons Try.sizeOf87 (sized_cons Try.sizeOf90 (sized_cons Try.sizeOf91 sized_nil))) (fil_scal rfl Try.sizeOf87 rfl rfl (Nat.le_of_ble_eq_true rfl) SetL.eq (fil_scal rfl Try.sizeOf90 rfl rfl (Nat.le_of_ble_eq_true rfl) SetL.eq fil_nil))) ?_
        refine s_do rfl (d_boxA rfl) ?_
        rintro _ _ ⟨qv, rfl, rfl⟩
        refine s_val rfl (v_assign rfl) ?_
        refine x_nil ?_
        refine n_then ?_
        refine x_seq ?_
        refine x_seq ?_
        refine run_pt (b := qv) (o' := rvO qs qm 0) rfl ?_
        have hmk : mk17 gone ts = mkS pg ts (min ts.length 200) := by rw [mk17, hpg]
        refine x_region ?_
        refine s_val rfl (v_assign rfl) ?_
        refine x_nil ?_
        refine n_then ?_
        refine x_block ?_
        refine x_loop (fun i : Nat => i ≤ min ts.length 200) (fun i => [(1, .slice ap ts.length cp), (14, .pointer (some ⟨pv, 0, none⟩)), (16, .pointer (some ⟨qv, 0, none⟩)), (17, .int .i64 i)]) (fun i => prH pv ps pm qv qs qm (mkS pg ts i).2 (mkS pg ts i).1 pg R) (fun i => 200 - i) 0 ?_ ?_ ?_ ?_
        · exact Nat.zero_le _
        · repeat (first | exact sub_nil | refine sub_cons rfl ?_)
        · simp only [mkS]; exact inferInstance
        · intro j hj
          obtain ⟨hG, hGl, hGd⟩ := mkS_ok pg ts j
          refine x_seq ?_
          refine x_seq ?_
          refine x_region ?_
          refine s_val rfl (v_move rfl) ?_
          refine s_val rfl (v_move rfl) ?_
          refine s_val rfl (v_len_slice Try.underlying23 rfl) ?_
          refine s_val rfl (v_lss rfl rfl) ?_
          refine s_val rfl (v_move rfl) ?_
          refine s_and rfl rfl rfl ?_ ?_
          · intro g17_5
            refine s_val rfl (v_move rfl) ?_
            refine s_yes rfl rfl ?_
            refine s_val rfl (v_lss rfl rfl) ?_
            refine s_val rfl (v_pick_t rfl rfl) ?_
            refine x_nil ?_
            refine n_then ?_
            refine x_if rfl ?_ ?_
            · intro c17
              refine x_skip ?_
              refine n_then ?_
              refine x_seq ?_
              refine x_block ?_
              refine x_seq ?_
              have hj1 : j < ts.length := by omega
              obtain ⟨gp, op, rfl, hcp⟩ := hts.at_ hj1
              obtain ⟨hpa, hx⟩ := htok _ (List.getElem_mem hj1)
              have hgt : ts.getD j (0, 0) = ts[j] := by simp [List.getD, hj1]
              refine x_draw [(gp, op + j * 2, pt17V ts[j])] 12 mixed rfl (sc_cons hcp.weak sc_end) (fun hS => ?_)
              refine d_take 0 rfl rfl (by kernel_rfl) (by kernel_rfl) (by kernel_rfl) rfl hS (v_move rfl) ?_
              refine d_take 1 rfl rfl (by kernel_rfl) (by kernel_rfl) (by kernel_rfl) rfl hS (v_move rfl) ?_
              refine d_take 2 rfl rfl (by kernel_rfl) (by kernel_rfl) (by kernel_rfl) rfl hS (v_move rfl) ?_
              refine d_take 3 rfl rfl (by kernel_rfl) (by kernel_rfl) (by kernel_rfl) rfl hS (v_idx Try.underlying23 Try.sizeOf102 rfl rfl rfl hj1 (by first | exact Nat.zero_add _ | rfl)) ?_
              refine d_take 4 rfl rfl (by kernel_rfl) (by kernel_rfl) (by kernel_rfl) rfl hS (v_fieldAddr rfl Try.underlying102 rfl Try.sizeOf24 rfl (by first | exact Nat.zero_add _ | rfl)) ?_
              refine d_take 5 rfl rfl (by kernel_rfl) (by kernel_rfl) (by kernel_rfl) rfl hS (v_load Try.isAgg24 rfl (cell_sc (k := 0) (j := 0) rfl rfl)) ?_
              refine d_take 6 rfl rfl (by kernel_rfl) (by kernel_rfl) (by kernel_rfl) rfl hS (v_move rfl) ?_
              refine d_take 7 rfl rfl (by kernel_rfl) (by kernel_rfl) (by kernel_rfl) rfl hS (v_move rfl) ?_
              refine d_take 8 rfl rfl (by kernel_rfl) (by kernel_rfl) (by kernel_rfl) rfl hS (v_idx Try.underlying23 Try.sizeOf102 rfl rfl rfl hj1 (by first | exact Nat.zero_add _ | rfl)) ?_
              refine d_take 9 rfl rfl (by kernel_rfl) (by kernel_rfl) (by kernel_rfl) rfl hS (v_fieldAddr rfl Try.underlying102 rfl Try.sizeOf24 rfl (by first | exact Nat.zero_add _ | rfl)) ?_
              refine d_take 10 rfl rfl (by kernel_rfl) (by kernel_rfl) (by kernel_rfl) rfl hS (v_load Try.isAgg24 rfl (cell_sc (k := 0) (j := 1) rfl rfl)) ?_
              refine d_one 11 (by kernel_rfl) rfl rfl (d_call3 Try.call17 rfl (viSave_spec W0 _ pv ps pm _ _ pg hP hG hGd ts[j].1 hpa 4 ts[j].2 hx)) rfl ?_; clear hS
              rintro _ B_ ⟨rfl, hB_⟩
              obtain rfl := hB_.symm
              refine ⟨(sc_cons hcp.weak sc_end), fun hS => ?_⟩
              refine d_done (by kernel_rfl) ?_; clear hS
              refine n_then ?_
              refine x_draw [(gp, op + j * 2, pt17V ts[j])] 12 mixed rfl (sc_cons hcp.weak sc_end) (fun hS => ?_)
              refine d_take 0 rfl rfl (by kernel_rfl) (by kernel_rfl) (by kernel_rfl) rfl hS (v_move rfl) ?_
              refine d_take 1 rfl rfl (by kernel_rfl) (by kernel_rfl) (by kernel_rfl) rfl hS (v_move rfl) ?_
              refine d_take 2 rfl rfl (by kernel_rfl) (by kernel_rfl) (by kernel_rfl) rfl hS (v_move rfl) ?_
              refine d_take 3 rfl rfl (by kernel_rfl) (by kernel_rfl) (by kernel_rfl) rfl hS (v_idx Try.underlying23 Try.sizeOf102 rfl rfl rfl hj1 (by first | exact Nat.zero_add _ | rfl)) ?_
              refine d_take 4 rfl rfl (by kernel_rfl) (by kernel_rfl) (by kernel_rfl) rfl hS (v_fieldAddr rfl Try.underlying102 rfl Try.sizeOf24 rfl (by first | exact Nat.zero_add _ | rfl)) ?_
              refine d_take 5 rfl rfl (by kernel_rfl) (by kernel_rfl) (by kernel_rfl) rfl hS (v_load Try.isAgg24 rfl (cell_sc (k := 0) (j := 0) rfl rfl)) ?_
              refine d_take 6 rfl rfl (by kernel_rfl) (by kernel_rfl) (by kernel_rfl) rfl hS (v_move rfl) ?_
              refine d_take 7 rfl rfl (by kernel_rfl) (by kernel_rfl) (by kernel_rfl) rfl hS (v_move rfl) ?_
              refine d_take 8 rfl rfl (by kernel_rfl) (by kernel_rfl) (by kernel_rfl) rfl hS (v_idx Try.underlying23 Try.sizeOf102 rfl rfl rfl hj1 (by first | exact Nat.zero_add _ | rfl)) ?_
              refine d_take 9 rfl rfl (by kernel_rfl) (by kernel_rfl) (by kernel_rfl) rfl hS (v_fieldAddr rfl Try.underlying102 rfl Try.sizeOf24 rfl (by first | exact Nat.zero_add _ | rfl)) ?_
              refine d_take 10 rfl rfl (by kernel_rfl) (by kernel_rfl) (by kernel_rfl) rfl hS (v_load Try.isAgg24 rfl (cell_sc (k := 0) (j := 1) rfl rfl)) ?_
              refine d_one 11 (by kernel_rfl) rfl rfl (d_call3 Try.call37 rfl (rvSave_spec W0 _ qv qs qm _ _ pg hP hG ts[j].1 hpa 4 ts[j].2 hx)) rfl ?_; clear hS
              rintro _ B_ ⟨rfl, hB_⟩
              obtain rfl := hB_.symm
              refine ⟨(sc_cons hcp.weak sc_end), fun hS => ?_⟩
              refine d_done (by kernel_rfl) ?_; clear hS
              refine n_block ?_
              refine n_then ?_
              refine x_region ?_
              refine s_val rfl (v_move rfl) ?_
              refine s_val rfl (v_add rfl rfl (by first | exact w64 (by omega) | rfl)) ?_
              refine s_val rfl (v_assign rfl) ?_
              refine x_nil ?_
              refine n_then ?_
              refine inv_intro (j + 1) ?_ ?_ ?_ ?_
              · omega
              · omega
              · repeat (first | exact sub_nil | refine sub_cons rfl ?_)
              · simp only [mkS, hgt]; exact inferInstance
            · intro c17
              refine x_exit ?_
              refine e_then ?_
              refine e_then ?_
              refine e_block ?_
              refine n_then ?_
              refine x_seq ?_
              refine x_region ?_
              refine s_val rfl (v_move rfl) ?_
              refine s_val rfl (v_move rfl) ?_
              refine s_val rfl (v_assign rfl) ?_
              refine s_val rfl (v_assign rfl) ?_
              refine x_nil ?_
              refine n_then ?_
              refine x_ret ?_
              refine x_done (.inl rfl) (.cons (r_tmp rfl) (.cons (r_tmp rfl) .nil)) ?_
              have e2 : j = min ts.length 200 := by omega
              subst e2
              rw [hmk]
              exact ⟨_, ⟨pv, ps, pm, qv, qs, qm, rfl, rfl⟩, inferInstance⟩
          · intro g17_5
            refine s_no rfl rfl rfl rfl ?_
            refine s_val rfl (v_pick_f rfl rfl) ?_
            refine x_nil ?_
            refine n_then ?_
            refine x_iff rfl ?_
            refine x_exit ?_
            refine e_then ?_
            refine e_then ?_
            refine e_block ?_
            refine n_then ?_
            refine x_seq ?_
            refine x_region ?_
            refine s_val rfl (v_move rfl) ?_
            refine s_val rfl (v_move rfl) ?_
            refine s_val rfl (v_assign rfl) ?_
            refine s_val rfl (v_assign rfl) ?_
            refine x_nil ?_
            refine n_then ?_
            refine x_ret ?_
            refine x_done (.inl rfl) (.cons (r_tmp rfl) (.cons (r_tmp rfl) .nil)) ?_
            have e2 : j = min ts.length 200 := by omega
            subst e2
            rw [hmk]
            exact ⟨_, ⟨pv, ps, pm, qv, qs, qm, rfl, rfl⟩, inferInstance⟩

def awTs : List Pt17 := [(64, 513), (128, 771)]
theorem awTs_ok : ∀ t ∈ awTs, Pt17Ok t := fun d hd => by
  simp only [awTs, List.mem_cons, List.not_mem_nil, or_false] at hd
  rcases hd with rfl | rfl <;> exact ⟨by decide, by decide⟩
theorem aw17 : fnwE (mk17 0 awTs).1 (pg17 0 10) true 1 false 5 1 = 0 ∧ fnwX fndP (mk17 0 awTs).1 (pg17 0 10) true 1 false 5 1 = 3 ∧ fnwX fndF (mk17 0 awTs).1 (pg17 0 10) true 1 false 5 1 = 8 ∧ fnwX fndO (mk17 0 awTs).1 (pg17 0 10) true 1 false 5 1 = 5 := by decide +kernel
theorem awake17_spec (W0 : World) (R : List HP) : Spec Try.prog W0 10 [] R (fun v B => v = .bool true ∧ B = R) := by
  have hP := pg17_ok 0 10
  obtain ⟨hF, _, _⟩ := mk17_ok 0 awTs
  obtain ⟨e1, e2, e3, e4⟩ := aw17
  refine spec_body Try.func10 Try.ntmps10 rfl rfl ?_
  refine x_seq ?_
  refine x_region ?_
  refine s_val rfl (v_assign rfl) ?_
  refine x_nil ?_
  refine n_then ?_
  refine x_seq ?_
  refine x_region ?_
  refine s_val rfl (v_build Try.underlying102 Try.zeroValue102 (sized_cons Try.sizeOf24 (sized_cons Try.sizeOf24 sized_nil)) (fil_scal rfl Try.sizeOf24 rfl rfl (Nat.le_of_ble_eq_true rfl) SetL.eq (fil_scal rfl Try.sizeOf24 rfl rfl (Nat.le_of_ble_eq_true rfl) SetL.eq fil_nil))) ?_
  refine s_val rfl (v_build Try.underlying102 Try.zeroValue102 (sized_cons Try.sizeOf24 (sized_cons Try.sizeOf24 sized_nil)) (fil_scal rfl Try.sizeOf24 rfl rfl (Nat.le_of_ble_eq_true rfl) SetL.eq (fil_scal rfl Try.sizeOf24 rfl rfl (Nat.le_of_ble_eq_true rfl) SetL.eq fil_nil))) ?_
  refine s_do rfl (d_sliceAgg Try.underlying23 Try.sizeOf102 Try.zeroValue102 rfl (elsK_cons rfl rfl (elsK_cons rfl rfl elsK_nil)) rfl (by decide) (by decide) (by decide)) ?_
  rintro _ _ ⟨b1, rfl, rfl⟩
  refine s_do rfl (d_call Try.call8 rfl (made17_spec W0 _ 0 (by decide) _ _ awTs (sla_pt (fun _ => rfl) rfl) awTs_ok (by decide))) ?_
  rintro _ B_ ⟨pv, ps, pm, qv, qs, qm, rfl, hB_⟩
  obtain rfl := hB_.symm
  generalize (mk17 0 awTs).1 = fr at hF e1 e2 e3 e4
  generalize (mk17 0 awTs).2 = dd
  generalize pg17 0 10 = pg at hP e1 e2 e3 e4
  refine s_val rfl (v_move rfl) ?_
  refine s_val rfl (v_extract rfl rfl) ?_
  refine s_val rfl (v_extract rfl rfl) ?_
  refine s_val rfl (v_assign rfl) ?_
  refine s_val rfl (v_assign rfl) ?_
  refine x_nil ?_
  refine n_then ?_
  refine x_seq ?_
  refine x_seq ?_
  refine x_region ?_
  refine s_val rfl (v_move rfl) ?_
  refine s_val rfl (v_eql_ptr_nil Try.underlying25 rfl rfl) ?_
  refine x_nil ?_
  refine n_then ?_
  refine x_if rfl ?_ ?_
  · intro c2
    cases c2
  · intro c2
    refine x_skip ?_
    refine n_then ?_
    refine x_seq ?_
    refine x_region ?_
    refine s_val rfl (v_move rfl) ?_
    refine s_val rfl (v_build Try.underlying34 Try.zeroValue34 (sized_cons Try.sizeOf4 (sized_cons Try.sizeOf3 (sized_cons Try.sizeOf4 sized_nil))) (fil_scal rfl Try.sizeOf4 rfl rfl (Nat.le_of_ble_eq_true rfl) SetL.eq (fil_scal rfl Try.sizeOf3 rfl rfl (Nat.le_of_ble_eq_true rfl) SetL.eq fil_nil))) ?_
    refine s_do rfl (d_call3 Try.call9 rfl (wkFind_spec W0 _ pv ps pm dd fr pg hP hF true 1 false 5 (by decide) 1)) ?_
    rintro _ B_ ⟨rfl, hB_⟩
    obtain rfl := hB_.symm
    rw [e1, fnwV, e2, e3, e4]
    refine s_val rfl (v_move rfl) ?_
    refine s_val rfl (v_extract rfl rfl) ?_
    refine s_val rfl (v_extract rfl rfl) ?_
    refine s_do rfl (d_allocA Try.zeroValue30) ?_
    rintro _ _ ⟨b2, rfl, rfl⟩
    refine s_do0 (d_storeAll Try.sizeOf30 rfl rfl rfl rfl rfl) ?_
    rintro _ _ rfl
    refine s_val rfl (v_assign rfl) ?_
    refine x_nil ?_
    refine n_then ?_
    refine x_seq ?_
    refine x_region ?_
    refine s_val rfl (v_move rfl) ?_
    refine s_val rfl (v_eql rfl rfl) ?_
    refine s_val rfl (v_move rfl) ?_
    refine s_and rfl rfl rfl ?_ ?_
    · intro g5_3
      refine s_val rfl (v_loadAll Try.isAgg30 Try.sizeOf30 rfl rfl) ?_
      refine s_yes rfl rfl ?_
      refine s_val rfl (v_build Try.underlying30 Try.zeroValue30 (sized_cons Try.sizeOf3 (sized_cons Try.sizeOf3 (sized_cons Try.sizeOf3 (sized_cons Try.sizeOf4 sized_nil)))) (fil_scal rfl Try.sizeOf3 rfl rfl (Nat.le_of_ble_eq_true rfl) SetL.eq (fil_scal rfl Try.sizeOf3 rfl rfl (Nat.le_of_ble_eq_true rfl) SetL.eq (fil_scal rfl Try.sizeOf3 rfl rfl (Nat.le_of_ble_eq_true rfl) SetL.eq fil_nil)))) ?_
      refine s_yes rfl rfl ?_
      refine s_val rfl (v_eql_agg Try.eqGuardType30 rfl rfl (q_struct Try.underlying30 Try.stoodInHeld30 (qf_scal rfl Try.isAgg3 rfl rfl (q_int Try.underlying3) (qf_scal rfl Try.isAgg3 rfl rfl (q_int Try.underlying3) (qf_scal rfl Try.isAgg3 rfl rfl (q_int Try.underlying3) (qf_scal rfl Try.isAgg4 rfl rfl (q_bool Try.underlying4) qf_nil)))))) ?_
      refine s_val rfl (v_pick_t rfl rfl) ?_
      refine s_val rfl (v_assign rfl) ?_
      refine x_nil ?_
      refine n_then ?_
      refine x_ret ?_
      refine x_done (.inl rfl) (.cons (r_tmp rfl) .nil) ?_
      exact ⟨_, ⟨rfl, rfl⟩, inferInstance⟩
    · intro g5_3
      exact absurd rfl g5_3
end Go.Proofs.Ytalpgipkkdlpgaa
