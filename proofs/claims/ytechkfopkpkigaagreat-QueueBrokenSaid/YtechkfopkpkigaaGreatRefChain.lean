/-
  The references of layers 21 and 22: descriptors, walking; lengths.
-/
import Derived.Test.YtechkfopkpkigaaGreatChainB
import Derived.Test.YtechkfopkpkigaaGreatRefViewC
namespace Go.Proofs.YtechkfopkpkigaaGreat
open Go.RowKit
set_option linter.unusedSimpArgs false
set_option linter.unusedVariables false
set_option maxRecDepth 20000

theorem getN_wd {l : List Nat} {k : Nat} (h : 4 * k + 4 ≤ l.length) : getN l ((4 * k : Nat) : Int) 4 = wdAt l k := by
  rw [getN, if_pos (inB_iff.2 (by omega)), Int.toNat_natCast]; rfl
theorem rWords_spec (W0 : World) (R : List HP) (a : Option Addr) (c : Nat) (l : List Nat) (hs : SlA (OwnP W0 R) a 1 (fun x => [bV x]) l) (hb : By l) (hcap : l.length ≤ c) (hl : l.length ≤ 1000000) (hc63 : c < 9223372036854775808) :
    Spec Tryz.prog W0 259 [.slice a l.length c] R (fun v B => ∃ a' c', v = .slice a' (l.length / 4) c' ∧ B = osl 53 1 (.slice a' (l.length / 4) c') (wordsV l (l.length / 4)) :: R) := by
  refine spec_body Tryz.func259 Tryz.ntmps259 rfl rfl ?_
  refine x_seq ?_
  refine x_region ?_
  refine s_val rfl (v_assign rfl) ?_
  refine x_nil ?_
  refine n_then ?_
  refine x_seq ?_
  refine x_region ?_
  refine s_val rfl (v_assign rfl) ?_
  refine x_nil ?_
  refine n_then ?_
  refine x_seq ?_
  refine x_seq ?_
  refine x_region ?_
  refine s_val rfl (v_assign rfl) ?_
  refine x_nil ?_
  refine n_then ?_
  refine x_block ?_
  refine x_loop (fun x : Nat × Option Addr × Nat => x.1 ≤ l.length / 4) (fun x => [(0, .slice a l.length c), (3, .slice x.2.1 x.1 x.2.2), (4, .int .i64 (4 * x.1 : Nat))]) (fun x => osl 53 1 (.slice x.2.1 x.1 x.2.2) (wordsV l x.1) :: R) (fun x => l.length / 4 - x.1) (0, none, 0) ?_ ?_ ?_ ?_
  · simp
  · repeat (first | exact sub_nil | refine sub_cons rfl ?_)
  · exact ent_osl_nil
  · intro ⟨i, a1, c1⟩ hi
    dsimp only at hi ⊢
    refine x_seq ?_
    refine x_seq ?_
    refine x_region ?_
    refine s_val rfl (v_move rfl) ?_
    refine s_val rfl (v_add rfl rfl (by first | exact w64 (by omega) | rfl)) ?_
    refine s_val rfl (v_move rfl) ?_
    refine s_val rfl (v_len_slice Tryz.underlying76 rfl) ?_
    refine s_val rfl (v_leq rfl rfl) ?_
    refine x_nil ?_
    refine n_then ?_
    refine x_if rfl ?_ ?_
    · intro c3
      refine x_skip ?_
      refine n_then ?_
      refine x_seq ?_
      refine x_block ?_
      refine x_seq ?_
      obtain ⟨g, off, rfl, hc⟩ := hs.all (by intro h0; subst h0; simp at *; omega) (fun _ => rfl)
      rw [byV_fm] at hc
      refine x_region ?_
      refine s_val rfl (v_move rfl) ?_
      refine s_val rfl (v_move rfl) ?_
      refine s_do rfl (d_call Tryz.call135 rfl (refGet02_spec W0 _ g off c l ((4 * i : Nat) : Int) 4 hc.weak hb hcap hc63)) ?_
      rintro _ B_ ⟨rfl, hB_⟩
      obtain rfl := hB_.symm
      rw [getN_wd (by omega)]
      refine s_val rfl (v_move rfl) ?_
      refine s_val rfl (v_extract rfl rfl) ?_
      refine s_val rfl (v_extract rfl rfl) ?_
      refine s_val rfl (v_assign rfl) ?_
      refine s_val rfl (v_assign rfl) ?_
      refine x_nil ?_
      refine n_then ?_
      refine x_region ?_
      refine s_val rfl (v_move rfl) ?_
      refine s_val rfl (v_move rfl) ?_
      refine s_do rfl (d_sliceLit Tryz.underlying84 Tryz.sizeOf53 Tryz.zeroValue53 rfl rfl rfl rfl rfl (by decide) (by decide)) ?_
      rintro _ _ ⟨b1, rfl, rfl⟩
      refine s_do rfl (d_append (sz := 1) (by_ := 4) (info := Tryz.t53) Tryz.underlying84 (by kernel_rfl) rfl rfl rfl rfl (by decide) rfl rfl cells_all rfl rfl (by simp only [maxLen]; omega) (by omega)) ?_
      rintro _ _ ⟨a2, c2, rfl, rfl⟩
      refine s_val rfl (v_assign rfl) ?_
      refine x_nil ?_
      refine n_block ?_
      refine n_then ?_
      refine x_region ?_
      refine s_val rfl (v_move rfl) ?_
      refine s_val rfl (v_add rfl rfl (by rw [w64 (by omega)]; omega : IntKind.wrap .i64 (((4 * i : Nat) : Int) + 4) = ((4 * (i + 1) : Nat) : Int))) ?_
      refine s_val rfl (v_assign rfl) ?_
      refine x_nil ?_
      refine n_then ?_
      refine inv_intro (i + 1, a2, c2) ?_ ?_ ?_ ?_
      · omega
      · omega
      · repeat (first | exact sub_nil | refine sub_cons rfl ?_)
      · rw [wordsV_succ]
        show Ent _ (osl 53 1 (.slice a2 (i + 1) c2) (wordsV l i ++ [.int .u32 ((wdAt l i : Nat) : Int)]) :: R)
        exact inferInstance
    · intro c3
      refine x_exit ?_
      refine e_then ?_
      refine e_then ?_
      refine e_block ?_
      refine n_then ?_
      refine x_seq ?_
      refine x_region ?_
      refine s_val rfl (v_move rfl) ?_
      refine s_val rfl (v_assign rfl) ?_
      refine x_nil ?_
      refine n_then ?_
      refine x_ret ?_
      refine x_done (.inl rfl) (.cons (r_tmp rfl) .nil) ?_
      have e1 : i = l.length / 4 := by omega
      subst e1
      exact ⟨_, ⟨a1, c1, rfl, rfl⟩, inferInstance⟩
theorem rdGet_spec (W0 : World) (R : List HP) (a : Option Addr) (c : Nat) (l : List Nat) (hs : SlA (OwnP W0 R) a 1 (fun x => [bV x]) l) (hb : By l) (hcap : l.length ≤ c) (hl : l.length ≤ 1000000) (hc63 : c < 9223372036854775808) :
    Spec Tryz.prog W0 251 [.slice a l.length c] R (fun v B => v = .tuple #[.agg (dsV (if l.length = 16 then dsOf l else zD)).toArray, .int .i64 (if l.length = 16 then 0 else 6)] ∧ B = R) := by
  refine spec_body Tryz.func251 Tryz.ntmps251 rfl rfl ?_
  refine x_seq ?_
  refine x_region ?_
  refine s_do rfl (d_allocA Tryz.zeroValue99) ?_
  rintro _ _ ⟨b1, rfl, rfl⟩
  refine s_val rfl (v_assign rfl) ?_
  refine x_nil ?_
  refine n_then ?_
  refine x_seq ?_
  refine x_seq ?_
  refine x_region ?_
  refine s_val rfl (v_move rfl) ?_
  refine s_val rfl (v_len_slice Tryz.underlying76 rfl) ?_
  refine s_val rfl (v_neq rfl rfl) ?_
  refine x_nil ?_
  refine n_then ?_
  refine x_if rfl ?_ ?_
  · intro c1
    refine x_seq ?_
    refine x_region ?_
    refine s_val rfl (v_build Tryz.underlying99 Tryz.zeroValue99 (sized_cons Tryz.sizeOf53 (sized_cons Tryz.sizeOf53 (sized_cons Tryz.sizeOf53 (sized_cons Tryz.sizeOf53 sized_nil)))) fil_nil) ?_
    refine s_do0 (d_storeAll Tryz.sizeOf99 rfl rfl rfl rfl rfl) ?_
    rintro _ _ rfl
    refine s_val rfl (v_assign rfl) ?_
    refine x_nil ?_
    refine n_then ?_
    refine x_ret ?_
    refine r_then ?_
    refine x_done (.inl rfl) (.cons (r_all Tryz.isAgg99 Tryz.sizeOf99 rfl rfl) (.cons (r_tmp rfl) .nil)) ?_
    refine ⟨_, ⟨?_, rfl⟩, inferInstance⟩
    have h16 : ¬ l.length = 16 := by omega
    simp [pack, h16, zD]
  · intro c1
    have h16 : l.length = 16 := by omega
    refine x_skip ?_
    refine n_then ?_
    refine x_seq ?_
    refine x_region ?_
    refine s_val rfl (v_move rfl) ?_
    refine s_do rfl (d_call Tryz.call259 rfl (rWords_spec W0 _ a c l (SlA.weak hs) hb hcap hl hc63)) ?_
    rintro _ B_ ⟨a', c', rfl, hB_⟩
    obtain rfl := hB_.symm
    rw [show l.length / 4 = 4 by rw [h16]]
    refine run_form (E := 53) (sz := 1) (a := a') (c := c') (n := 4) (fun hf => ?_)
    obtain ⟨g, rfl⟩ := form_some hf (by simp [wordsV])
    refine s_val rfl (v_assign rfl) ?_
    refine x_nil ?_
    refine n_then ?_
    refine x_seq ?_
    refine x_draw [(g, 0, wordsV l 4)] 15 mixed rfl (sc_cons (cells_osl (E := 53) (sz := 1) (a := some ⟨g, 0, none⟩) (c := c') (n := 4)) sc_end) (fun hS => ?_)
    refine d_take 0 rfl rfl (by kernel_rfl) (by kernel_rfl) (by kernel_rfl) rfl hS (v_move rfl) ?_
    refine d_take 1 rfl rfl (by kernel_rfl) (by kernel_rfl) (by kernel_rfl) rfl hS (v_idx Tryz.underlying84 Tryz.sizeOf53 rfl rfl rfl (by decide) (by first | exact Nat.zero_add _ | rfl)) ?_
    refine d_take 2 rfl rfl (by kernel_rfl) (by kernel_rfl) (by kernel_rfl) rfl hS (v_load Tryz.isAgg53 rfl (cell_sc0 (k := 0) rfl rfl)) ?_
    refine d_take 3 rfl rfl (by kernel_rfl) (by kernel_rfl) (by kernel_rfl) rfl hS (v_move rfl) ?_
    refine d_take 4 rfl rfl (by kernel_rfl) (by kernel_rfl) (by kernel_rfl) rfl hS (v_idx Tryz.underlying84 Tryz.sizeOf53 rfl rfl rfl (by decide) (by first | exact Nat.zero_add _ | rfl)) ?_
    refine d_take 5 rfl rfl (by kernel_rfl) (by kernel_rfl) (by kernel_rfl) rfl hS (v_load Tryz.isAgg53 rfl (cell_sc0 (k := 0) rfl rfl)) ?_
    refine d_take 6 rfl rfl (by kernel_rfl) (by kernel_rfl) (by kernel_rfl) rfl hS (v_move rfl) ?_
    refine d_take 7 rfl rfl (by kernel_rfl) (by kernel_rfl) (by kernel_rfl) rfl hS (v_idx Tryz.underlying84 Tryz.sizeOf53 rfl rfl rfl (by decide) (by first | exact Nat.zero_add _ | rfl)) ?_
    refine d_take 8 rfl rfl (by kernel_rfl) (by kernel_rfl) (by kernel_rfl) rfl hS (v_load Tryz.isAgg53 rfl (cell_sc0 (k := 0) rfl rfl)) ?_
    refine d_take 9 rfl rfl (by kernel_rfl) (by kernel_rfl) (by kernel_rfl) rfl hS (v_move rfl) ?_
    refine d_take 10 rfl rfl (by kernel_rfl) (by kernel_rfl) (by kernel_rfl) rfl hS (v_idx Tryz.underlying84 Tryz.sizeOf53 rfl rfl rfl (by decide) (by first | exact Nat.zero_add _ | rfl)) ?_
    refine d_take 11 rfl rfl (by kernel_rfl) (by kernel_rfl) (by kernel_rfl) rfl hS (v_load Tryz.isAgg53 rfl (cell_sc0 (k := 0) rfl rfl)) ?_
    refine d_take 12 rfl rfl (by kernel_rfl) (by kernel_rfl) (by kernel_rfl) rfl hS (v_build Tryz.underlying99 Tryz.zeroValue99 (sized_cons Tryz.sizeOf53 (sized_cons Tryz.sizeOf53 (sized_cons Tryz.sizeOf53 (sized_cons Tryz.sizeOf53 sized_nil)))) (fil_scal rfl Tryz.sizeOf53 rfl rfl (Nat.le_of_ble_eq_true rfl) SetL.eq (fil_scal rfl Tryz.sizeOf53 rfl rfl (Nat.le_of_ble_eq_true rfl) SetL.eq (fil_scal rfl Tryz.sizeOf53 rfl rfl (Nat.le_of_ble_eq_true rfl) SetL.eq (fil_scal rfl Tryz.sizeOf53 rfl rfl (Nat.le_of_ble_eq_true rfl) SetL.eq fil_nil))))) ?_
    refine d_one 13 (by kernel_rfl) rfl rfl (d_storeAll Tryz.sizeOf99 rfl rfl rfl rfl rfl) rfl ?_; clear hS
    rintro _ _ rfl
    refine ⟨(sc_cons (cells_osl (E := 53) (sz := 1) (a := some ⟨g, 0, none⟩) (c := c') (n := 4)) sc_end), fun hS => ?_⟩
    refine d_take 14 rfl rfl (by kernel_rfl) (by kernel_rfl) (by kernel_rfl) rfl hS (v_assign rfl) ?_
    refine d_done (by kernel_rfl) ?_; clear hS
    refine n_then ?_
    refine x_ret ?_
    refine x_done (.inl rfl) (.cons (r_all Tryz.isAgg99 Tryz.sizeOf99 rfl rfl) (.cons (r_tmp rfl) .nil)) ?_
    refine ⟨_, ⟨?_, rfl⟩, inferInstance⟩
    rw [if_pos h16, if_pos h16]; rfl
theorem rdCheck_spec (W0 : World) (R : List HP) (d : Dsc) (hd : d.ok) (n : Nat) (hn : n < 9223372036854775808) : Spec Tryz.prog W0 252 [.agg (dsV d).toArray, .int .i64 n] R (fun v B => v = .int .i64 (chkC d n) ∧ B = R) := by
  have h1 := hd.flags
  have h2 := hd.next
  refine spec_body Tryz.func252 Tryz.ntmps252 rfl rfl ?_
  refine x_seq ?_
  refine x_region ?_
  refine s_do rfl (d_boxA rfl) ?_
  rintro _ _ ⟨b1, rfl, rfl⟩
  refine s_val rfl (v_assign rfl) ?_
  refine x_nil ?_
  refine n_then ?_
  refine x_seq ?_
  refine x_seq ?_
  refine x_region ?_
  refine s_val rfl (v_fieldAddr rfl Tryz.underlying99 rfl Tryz.sizeOf53 rfl (by first | exact Nat.zero_add _ | rfl)) ?_
  refine s_val rfl (v_load Tryz.isAgg53 rfl (cell_own rfl)) ?_
  refine s_val rfl (v_gtr rfl rfl) ?_
  refine x_nil ?_
  refine n_then ?_
  refine x_if rfl ?_ ?_
  · intro c1
    refine x_seq ?_
    refine x_region ?_
    refine s_val rfl (v_assign rfl) ?_
    refine x_nil ?_
    refine n_then ?_
    refine x_ret ?_
    refine r_then ?_
    refine x_done (.inl rfl) (.cons (r_tmp rfl) .nil) ?_
    refine ⟨_, ⟨?_, rfl⟩, inferInstance⟩
    simp only [pack, chkC]; rw [if_pos (by omega)]
  · intro c1
    refine x_skip ?_
    refine n_then ?_
    refine x_seq ?_
    refine x_seq ?_
    refine x_region ?_
    refine s_val rfl (v_fieldAddr rfl Tryz.underlying99 rfl Tryz.sizeOf53 rfl (by first | exact Nat.zero_add _ | rfl)) ?_
    refine s_val rfl (v_load Tryz.isAgg53 rfl (cell_own rfl)) ?_
    refine s_val rfl (v_gtr rfl rfl) ?_
    refine x_nil ?_
    refine n_then ?_
    refine x_if rfl ?_ ?_
    · intro c3
      refine x_seq ?_
      refine x_region ?_
      refine s_val rfl (v_assign rfl) ?_
      refine x_nil ?_
      refine n_then ?_
      refine x_ret ?_
      refine r_then ?_
      refine x_done (.inl rfl) (.cons (r_tmp rfl) .nil) ?_
      refine ⟨_, ⟨?_, rfl⟩, inferInstance⟩
      simp only [pack, chkC]; rw [if_neg (by omega), if_pos (by omega)]
    · intro c3
      refine x_skip ?_
      refine n_then ?_
      refine x_seq ?_
      refine x_seq ?_
      refine x_region ?_
      refine s_val rfl (v_fieldAddr rfl Tryz.underlying99 rfl Tryz.sizeOf53 rfl (by first | exact Nat.zero_add _ | rfl)) ?_
      refine s_val rfl (v_load Tryz.isAgg53 rfl (cell_own rfl)) ?_
      refine s_val rfl (v_rem rfl rfl (by decide) (tmodN d.flags 2)) ?_
      refine s_val rfl (v_eql rfl rfl) ?_
      refine s_val rfl (v_move rfl) ?_
      refine s_and rfl rfl rfl ?_ ?_
      · intro g5_5
        refine s_val rfl (v_fieldAddr rfl Tryz.underlying99 rfl Tryz.sizeOf53 rfl (by first | exact Nat.zero_add _ | rfl)) ?_
        refine s_yes rfl rfl ?_
        refine s_val rfl (v_load Tryz.isAgg53 rfl (cell_own rfl)) ?_
        refine s_yes rfl rfl ?_
        refine s_val rfl (v_conv Tryz.underlying53 Tryz.underlying3 rfl (w64 (by omega))) ?_
        refine s_yes rfl rfl ?_
        refine s_val rfl (v_move rfl) ?_
        refine s_yes rfl rfl ?_
        refine s_val rfl (v_geq rfl rfl) ?_
        refine s_val rfl (v_pick_t rfl rfl) ?_
        refine x_nil ?_
        refine n_then ?_
        refine x_if rfl ?_ ?_
        · intro c5
          refine x_seq ?_
          refine x_region ?_
          refine s_val rfl (v_assign rfl) ?_
          refine x_nil ?_
          refine n_then ?_
          refine x_ret ?_
          refine r_then ?_
          refine x_done (.inl rfl) (.cons (r_tmp rfl) .nil) ?_
          refine ⟨_, ⟨?_, rfl⟩, inferInstance⟩
          simp only [pack, chkC]; rw [if_neg (by omega), if_neg (by omega), if_pos (by omega)]
        · intro c5
          refine x_skip ?_
          refine n_then ?_
          refine x_seq ?_
          refine x_region ?_
          refine s_val rfl (v_assign rfl) ?_
          refine x_nil ?_
          refine n_then ?_
          refine x_ret ?_
          refine x_done (.inl rfl) (.cons (r_tmp rfl) .nil) ?_
          refine ⟨_, ⟨?_, rfl⟩, inferInstance⟩
          simp only [pack, chkC]; rw [if_neg (by omega), if_neg (by omega), if_neg (by omega)]
      · intro g5_5
        refine s_no rfl rfl rfl rfl ?_
        refine s_no rfl rfl rfl rfl ?_
        refine s_no rfl rfl rfl rfl ?_
        refine s_no rfl rfl rfl rfl ?_
        refine s_val rfl (v_pick_f rfl rfl) ?_
        refine x_nil ?_
        refine n_then ?_
        refine x_iff rfl ?_
        refine x_skip ?_
        refine n_then ?_
        refine x_seq ?_
        refine x_region ?_
        refine s_val rfl (v_assign rfl) ?_
        refine x_nil ?_
        refine n_then ?_
        refine x_ret ?_
        refine x_done (.inl rfl) (.cons (r_tmp rfl) .nil) ?_
        refine ⟨_, ⟨?_, rfl⟩, inferInstance⟩
        simp only [pack, chkC]; rw [if_neg (by omega), if_neg (by omega), if_neg (by omega)]
theorem rdSized_spec (W0 : World) (R : List HP) (n : Int) : Spec Tryz.prog W0 176 [.int .i64 n] R (fun v B => v = .bool (szd n) ∧ B = R) := by
  refine spec_body Tryz.func176 Tryz.ntmps176 rfl rfl ?_
  refine x_seq ?_
  refine x_region ?_
  refine s_val rfl (v_assign rfl) ?_
  refine x_nil ?_
  refine n_then ?_
  refine x_seq ?_
  refine x_region ?_
  refine s_val rfl (v_move rfl) ?_
  refine s_val rfl (v_eql rfl rfl) ?_
  refine s_val rfl (v_move rfl) ?_
  refine s_or rfl rfl rfl ?_ ?_
  · intro g1_3
    refine s_no rfl rfl rfl rfl ?_
    refine s_val rfl (v_pick_t rfl rfl) ?_
    refine s_val rfl (v_move rfl) ?_
    refine s_no rfl rfl rfl rfl ?_
    refine s_no rfl rfl rfl rfl ?_
    refine s_val rfl (v_pick_t rfl rfl) ?_
    refine s_val rfl (v_assign rfl) ?_
    refine x_nil ?_
    refine n_then ?_
    refine x_ret ?_
    refine x_done (.inl rfl) (.cons (r_tmp rfl) .nil) ?_
    refine ⟨_, ⟨?_, rfl⟩, inferInstance⟩
    refine congrArg Value.bool ?_
    rw [Bool.eq_iff_iff]; simp only [szd, decide_eq_true_iff, beq_iff_eq, Bool.true_eq_false, iff_true, true_iff]; omega
  · intro g1_3
    refine s_val rfl (v_move rfl) ?_
    refine s_yes rfl rfl ?_
    refine s_val rfl (v_eql rfl rfl) ?_
    refine s_val rfl (v_pick_f rfl rfl) ?_
    refine s_val rfl (v_move rfl) ?_
    refine s_or rfl rfl rfl ?_ ?_
    · intro g1_7
      refine s_no rfl rfl rfl rfl ?_
      refine s_val rfl (v_pick_t rfl rfl) ?_
      refine s_val rfl (v_assign rfl) ?_
      refine x_nil ?_
      refine n_then ?_
      refine x_ret ?_
      refine x_done (.inl rfl) (.cons (r_tmp rfl) .nil) ?_
      refine ⟨_, ⟨?_, rfl⟩, inferInstance⟩
      refine congrArg Value.bool ?_
      rw [Bool.eq_iff_iff]; simp only [szd, decide_eq_true_iff, beq_iff_eq, Bool.true_eq_false, iff_true, true_iff]; omega
    · intro g1_7
      refine s_val rfl (v_move rfl) ?_
      refine s_yes rfl rfl ?_
      refine s_val rfl (v_eql rfl rfl) ?_
      refine s_val rfl (v_pick_f rfl rfl) ?_
      refine s_val rfl (v_assign rfl) ?_
      refine x_nil ?_
      refine n_then ?_
      refine x_ret ?_
      refine x_done (.inl rfl) (.cons (r_tmp rfl) .nil) ?_
      refine ⟨_, ⟨?_, rfl⟩, inferInstance⟩
      refine congrArg Value.bool ?_
      rw [Bool.eq_iff_iff]; simp only [szd, decide_eq_true_iff, beq_iff_eq, Bool.true_eq_false, iff_true, true_iff]; omega
theorem rgtB_iff {r : Rg3} : rgtB r = true ↔ (r.desc % 4 = 0 ∧ r.avail % 4 = 0 ∧ r.used % 4 = 0) ∧ szd r.n = true := by
  rw [rgtB, Bool.and_eq_true]; exact ⟨fun h => ⟨of_decide_eq_true h.1, h.2⟩, fun h => ⟨decide_eq_true h.1, h.2⟩⟩
theorem rdRight_spec (W0 : World) (R : List HP) (r : Rg3) : Spec Tryz.prog W0 97 [.agg (rgV r).toArray] R (fun v B => v = .bool (rgtB r) ∧ B = R) := by
  refine spec_body Tryz.func97 Tryz.ntmps97 rfl rfl ?_
  refine x_seq ?_
  refine x_region ?_
  refine s_do rfl (d_boxA rfl) ?_
  rintro _ _ ⟨b1, rfl, rfl⟩
  refine s_val rfl (v_assign rfl) ?_
  refine x_nil ?_
  refine n_then ?_
  refine x_seq ?_
  refine x_region ?_
  refine s_val rfl (v_fieldAddr rfl Tryz.underlying55 rfl Tryz.sizeOf3 rfl (by first | exact Nat.zero_add _ | rfl)) ?_
  refine s_val rfl (v_load Tryz.isAgg3 rfl (cell_own rfl)) ?_
  refine s_do rfl (d_call Tryz.call176 rfl (rdSized_spec W0 _ r.n)) ?_
  rintro _ B_ ⟨rfl, hB_⟩
  obtain rfl := hB_.symm
  refine s_val rfl (v_move rfl) ?_
  refine s_and rfl rfl rfl ?_ ?_
  · intro g1_4
    refine s_val rfl (v_fieldAddr rfl Tryz.underlying55 rfl Tryz.sizeOf53 rfl (by first | exact Nat.zero_add _ | rfl)) ?_
    refine s_yes rfl rfl ?_
    refine s_val rfl (v_load Tryz.isAgg53 rfl (cell_own rfl)) ?_
    refine s_yes rfl rfl ?_
    refine s_val rfl (v_rem rfl rfl (by decide) (tmodN r.desc 4)) ?_
    refine s_yes rfl rfl ?_
    refine s_val rfl (v_eql rfl rfl) ?_
    refine s_val rfl (v_pick_t rfl rfl) ?_
    refine s_val rfl (v_move rfl) ?_
    refine s_and rfl rfl rfl ?_ ?_
    · intro g1_10
      refine s_val rfl (v_fieldAddr rfl Tryz.underlying55 rfl Tryz.sizeOf53 rfl (by first | exact Nat.zero_add _ | rfl)) ?_
      refine s_yes rfl rfl ?_
      refine s_val rfl (v_load Tryz.isAgg53 rfl (cell_own rfl)) ?_
      refine s_yes rfl rfl ?_
      refine s_val rfl (v_rem rfl rfl (by decide) (tmodN r.avail 4)) ?_
      refine s_yes rfl rfl ?_
      refine s_val rfl (v_eql rfl rfl) ?_
      refine s_val rfl (v_pick_t rfl rfl) ?_
      refine s_val rfl (v_move rfl) ?_
      refine s_and rfl rfl rfl ?_ ?_
      · intro g1_16
        refine s_val rfl (v_fieldAddr rfl Tryz.underlying55 rfl Tryz.sizeOf53 rfl (by first | exact Nat.zero_add _ | rfl)) ?_
        refine s_yes rfl rfl ?_
        refine s_val rfl (v_load Tryz.isAgg53 rfl (cell_own rfl)) ?_
        refine s_yes rfl rfl ?_
        refine s_val rfl (v_rem rfl rfl (by decide) (tmodN r.used 4)) ?_
        refine s_yes rfl rfl ?_
        refine s_val rfl (v_eql rfl rfl) ?_
        refine s_val rfl (v_pick_t rfl rfl) ?_
        refine s_val rfl (v_assign rfl) ?_
        refine x_nil ?_
        refine n_then ?_
        refine x_ret ?_
        refine x_done (.inl rfl) (.cons (r_tmp rfl) .nil) ?_
        refine ⟨_, ⟨?_, rfl⟩, inferInstance⟩
        refine congrArg Value.bool ?_
        rw [Bool.eq_iff_iff, rgtB_iff]
        first
          | (rw [beq_iff_eq]; constructor
             · intro q; exact ⟨by omega, g1_4⟩
             · rintro ⟨q, _⟩; omega)
          | (constructor
             · intro q; cases q
             · rintro ⟨q1, q2⟩; first | exact absurd q2 g1_4 | (exfalso; omega))
      · intro g1_16
        refine s_no rfl rfl rfl rfl ?_
        refine s_no rfl rfl rfl rfl ?_
        refine s_no rfl rfl rfl rfl ?_
        refine s_val rfl (v_pick_f rfl rfl) ?_
        refine s_val rfl (v_assign rfl) ?_
        refine x_nil ?_
        refine n_then ?_
        refine x_ret ?_
        refine x_done (.inl rfl) (.cons (r_tmp rfl) .nil) ?_
        refine ⟨_, ⟨?_, rfl⟩, inferInstance⟩
        refine congrArg Value.bool ?_
        rw [Bool.eq_iff_iff, rgtB_iff]
        first
          | (rw [beq_iff_eq]; constructor
             · intro q; exact ⟨by omega, g1_4⟩
             · rintro ⟨q, _⟩; omega)
          | (constructor
             · intro q; cases q
             · rintro ⟨q1, q2⟩; first | exact absurd q2 g1_4 | (exfalso; omega))
    · intro g1_10
      refine s_no rfl rfl rfl rfl ?_
      refine s_no rfl rfl rfl rfl ?_
      refine s_no rfl rfl rfl rfl ?_
      refine s_val rfl (v_pick_f rfl rfl) ?_
      refine s_val rfl (v_move rfl) ?_
      refine s_no rfl rfl rfl rfl ?_
      refine s_no rfl rfl rfl rfl ?_
      refine s_no rfl rfl rfl rfl ?_
      refine s_no rfl rfl rfl rfl ?_
      refine s_val rfl (v_pick_f rfl rfl) ?_
      refine s_val rfl (v_assign rfl) ?_
      refine x_nil ?_
      refine n_then ?_
      refine x_ret ?_
      refine x_done (.inl rfl) (.cons (r_tmp rfl) .nil) ?_
      refine ⟨_, ⟨?_, rfl⟩, inferInstance⟩
      refine congrArg Value.bool ?_
      rw [Bool.eq_iff_iff, rgtB_iff]
      first
        | (rw [beq_iff_eq]; constructor
           · intro q; exact ⟨by omega, g1_4⟩
           · rintro ⟨q, _⟩; omega)
        | (constructor
           · intro q; cases q
           · rintro ⟨q1, q2⟩; first | exact absurd q2 g1_4 | (exfalso; omega))
  · intro g1_4
    refine s_no rfl rfl rfl rfl ?_
    refine s_no rfl rfl rfl rfl ?_
    refine s_no rfl rfl rfl rfl ?_
    refine s_val rfl (v_pick_f rfl rfl) ?_
    refine s_val rfl (v_move rfl) ?_
    refine s_no rfl rfl rfl rfl ?_
    refine s_no rfl rfl rfl rfl ?_
    refine s_no rfl rfl rfl rfl ?_
    refine s_no rfl rfl rfl rfl ?_
    refine s_val rfl (v_pick_f rfl rfl) ?_
    refine s_val rfl (v_move rfl) ?_
    refine s_no rfl rfl rfl rfl ?_
    refine s_no rfl rfl rfl rfl ?_
    refine s_no rfl rfl rfl rfl ?_
    refine s_no rfl rfl rfl rfl ?_
    refine s_val rfl (v_pick_f rfl rfl) ?_
    refine s_val rfl (v_assign rfl) ?_
    refine x_nil ?_
    refine n_then ?_
    refine x_ret ?_
    refine x_done (.inl rfl) (.cons (r_tmp rfl) .nil) ?_
    refine ⟨_, ⟨?_, rfl⟩, inferInstance⟩
    refine congrArg Value.bool ?_
    rw [Bool.eq_iff_iff, rgtB_iff]
    first
      | (rw [beq_iff_eq]; constructor
         · intro q; exact ⟨by omega, g1_4⟩
         · rintro ⟨q, _⟩; omega)
      | (constructor
         · intro q; cases q
         · rintro ⟨q1, q2⟩; first | exact absurd q2 g1_4 | (exfalso; omega))
theorem lk_flags {fr : List Frm} {pg : List Pl} {r : Rg3} {at_ : Int} {n : Nat} {wr : Bool} (h : (lk fr pg r at_ n wr).2 = 0) : (lk fr pg r at_ n wr).1.flags < 4 := by
  unfold lk at h ⊢
  by_cases q1 : at_ < 0 ∨ r.n ≤ at_
  · rw [if_pos q1] at h; exact absurd h (by decide)
  rw [if_neg q1] at h ⊢
  by_cases q2 : r.n ≤ (n : Int)
  · rw [if_pos q2] at h; exact absurd h (by decide)
  rw [if_neg q2] at h ⊢
  by_cases q3 : ownB fr.length pg (dsPa r at_.toNat) 16 = false
  · rw [if_pos q3] at h; exact absurd h (by decide)
  rw [if_neg q3] at h ⊢
  by_cases q4 : chkC (dsAt fr pg r at_.toNat) r.n.toNat ≠ 0
  · rw [if_pos q4] at h; exact absurd h q4
  rw [if_neg q4] at h ⊢
  by_cases q5 : ownB fr.length pg (dsAt fr pg r at_.toNat).addr (dsAt fr pg r at_.toNat).len = false
  · rw [if_pos q5] at h; exact absurd h (by decide)
  rw [if_neg q5] at h ⊢
  by_cases q6 : wr = true ∧ wrB (dsAt fr pg r at_.toNat) = false
  · rw [if_pos q6] at h; exact absurd h (by decide)
  rw [if_neg q6]
  simp only
  rcases Nat.lt_or_ge (dsAt fr pg r at_.toNat).flags 4 with q | q
  · exact q
  · exact absurd (by rw [chkC, if_pos q]; decide) q4
abbrev rvw (qv qs qm d : Nat) (fr : List Frm) (pg : List Pl) (R : List HP) : List HP := pt qv (rvO qs qm d) :: rstoH qs fr :: pt qm (rgO pg) :: R
theorem rcWrong_spec (W0 : World) (R : List HP) (qv qs qm d : Nat) (fr : List Frm) (pg : List Pl) (h : Pgs pg) (hF : Frs fr) (r : Rg3) (hr : r.ok) (hn8 : r.n ≤ 8) (wr : Bool) (at_ : Int) (n : Nat) :
    Spec Tryz.prog W0 227 [.pointer (some ⟨qv, 0, none⟩), .agg (rgV r).toArray, .int .i64 at_, .int .i64 n, .bool wr] (rvw qv qs qm d fr pg R)
      (fun v B => v = .tuple #[.agg (dsV (lk fr pg r at_ n wr).1).toArray, .int .i64 (lk fr pg r at_ n wr).2] ∧ B = rvw qv qs qm d fr pg R) := by
  have hrd := hr.desc
  refine spec_body Tryz.func227 Tryz.ntmps227 rfl rfl ?_
  refine x_seq ?_
  refine x_region ?_
  refine s_do rfl (d_boxA rfl) ?_
  rintro _ _ ⟨b1, rfl, rfl⟩
  refine s_do rfl (d_allocA Tryz.zeroValue99) ?_
  rintro _ _ ⟨b2, rfl, rfl⟩
  refine s_val rfl (v_assign rfl) ?_
  refine x_nil ?_
  refine n_then ?_
  refine x_seq ?_
  refine x_seq ?_
  refine x_region ?_
  refine s_val rfl (v_move rfl) ?_
  refine s_val rfl (v_lss rfl rfl) ?_
  refine s_val rfl (v_move rfl) ?_
  refine s_or rfl rfl rfl ?_ ?_
  · intro g1_3
    refine s_no rfl rfl rfl rfl ?_
    refine s_no rfl rfl rfl rfl ?_
    refine s_no rfl rfl rfl rfl ?_
    refine s_val rfl (v_pick_t rfl rfl) ?_
    refine x_nil ?_
    refine n_then ?_
    refine x_ift rfl ?_
    refine x_seq ?_
    refine x_region ?_
    refine s_val rfl (v_build Tryz.underlying99 Tryz.zeroValue99 (sized_cons Tryz.sizeOf53 (sized_cons Tryz.sizeOf53 (sized_cons Tryz.sizeOf53 (sized_cons Tryz.sizeOf53 sized_nil)))) fil_nil) ?_
    refine s_do0 (d_storeAll Tryz.sizeOf99 rfl rfl rfl rfl rfl) ?_
    rintro _ _ rfl
    refine s_val rfl (v_assign rfl) ?_
    refine x_nil ?_
    refine n_then ?_
    refine x_ret ?_
    refine r_then ?_
    refine x_done (.inl rfl) (.cons (r_all Tryz.isAgg99 Tryz.sizeOf99 rfl rfl) (.cons (r_tmp rfl) .nil)) ?_
    refine ⟨_, ⟨?_, rfl⟩, inferInstance⟩
    have hl : lk fr pg r at_ n wr = (zD, 1) := by unfold lk; rw [if_pos (by omega)]
    rw [hl]; rfl
  · intro g1_3
    refine s_val rfl (v_move rfl) ?_
    refine s_yes rfl rfl ?_
    refine s_val rfl (v_fieldAddr rfl Tryz.underlying55 rfl Tryz.sizeOf3 rfl (by first | exact Nat.zero_add _ | rfl)) ?_
    refine s_yes rfl rfl ?_
    refine s_val rfl (v_load Tryz.isAgg3 rfl (cell_own rfl)) ?_
    refine s_yes rfl rfl ?_
    refine s_val rfl (v_geq rfl rfl) ?_
    refine s_val rfl (v_pick_f rfl rfl) ?_
    refine x_nil ?_
    refine n_then ?_
    refine x_if rfl ?_ ?_
    · intro c1
      refine x_seq ?_
      refine x_region ?_
      refine s_val rfl (v_build Tryz.underlying99 Tryz.zeroValue99 (sized_cons Tryz.sizeOf53 (sized_cons Tryz.sizeOf53 (sized_cons Tryz.sizeOf53 (sized_cons Tryz.sizeOf53 sized_nil)))) fil_nil) ?_
      refine s_do0 (d_storeAll Tryz.sizeOf99 rfl rfl rfl rfl rfl) ?_
      rintro _ _ rfl
      refine s_val rfl (v_assign rfl) ?_
      refine x_nil ?_
      refine n_then ?_
      refine x_ret ?_
      refine r_then ?_
      refine x_done (.inl rfl) (.cons (r_all Tryz.isAgg99 Tryz.sizeOf99 rfl rfl) (.cons (r_tmp rfl) .nil)) ?_
      refine ⟨_, ⟨?_, rfl⟩, inferInstance⟩
      have hl : lk fr pg r at_ n wr = (zD, 1) := by unfold lk; rw [if_pos (by omega)]
      rw [hl]; rfl
    · intro c1
      refine x_skip ?_
      refine n_then ?_
      refine x_seq ?_
      refine x_seq ?_
      refine x_region ?_
      refine s_val rfl (v_move rfl) ?_
      refine s_val rfl (v_fieldAddr rfl Tryz.underlying55 rfl Tryz.sizeOf3 rfl (by first | exact Nat.zero_add _ | rfl)) ?_
      refine s_val rfl (v_load Tryz.isAgg3 rfl (cell_own rfl)) ?_
      refine s_val rfl (v_geq rfl rfl) ?_
      refine x_nil ?_
      refine n_then ?_
      refine x_if rfl ?_ ?_
      · intro c3
        refine x_seq ?_
        refine x_region ?_
        refine s_val rfl (v_build Tryz.underlying99 Tryz.zeroValue99 (sized_cons Tryz.sizeOf53 (sized_cons Tryz.sizeOf53 (sized_cons Tryz.sizeOf53 (sized_cons Tryz.sizeOf53 sized_nil)))) fil_nil) ?_
        refine s_do0 (d_storeAll Tryz.sizeOf99 rfl rfl rfl rfl rfl) ?_
        rintro _ _ rfl
        refine s_val rfl (v_assign rfl) ?_
        refine x_nil ?_
        refine n_then ?_
        refine x_ret ?_
        refine r_then ?_
        refine x_done (.inl rfl) (.cons (r_all Tryz.isAgg99 Tryz.sizeOf99 rfl rfl) (.cons (r_tmp rfl) .nil)) ?_
        refine ⟨_, ⟨?_, rfl⟩, inferInstance⟩
        have hl : lk fr pg r at_ n wr = (zD, 2) := by unfold lk; rw [if_neg (by omega), if_pos (by omega)]
        rw [hl]; rfl
      · intro c3
        refine x_skip ?_
        refine n_then ?_
        refine x_seq ?_
        obtain ⟨k, rfl⟩ : ∃ k : Nat, at_ = (k : Int) := ⟨at_.toNat, by omega⟩
        obtain ⟨dd, hdd⟩ : ∃ x, dsAt fr pg r k = x := ⟨_, rfl⟩
        have hok := dsAt_ok hF pg r k
        rw [hdd] at hok
        obtain ⟨rn, hrn⟩ : ∃ x : Nat, r.n = (x : Int) := ⟨r.n.toNat, by omega⟩
        refine x_region ?_
        refine s_val rfl (v_move rfl) ?_
        refine s_val rfl (v_fieldAddr rfl Tryz.underlying55 rfl Tryz.sizeOf53 rfl (by first | exact Nat.zero_add _ | rfl)) ?_
        refine s_val rfl (v_load Tryz.isAgg53 rfl (cell_own rfl)) ?_
        refine s_val rfl (v_move rfl) ?_
        refine s_val rfl (v_conv Tryz.underlying3 Tryz.underlying53 rfl (w32u (by omega))) ?_
        refine s_val rfl (v_mul rfl rfl (by rw [w32u (by omega)]; omega : IntKind.wrap .u32 (16 * (k : Int)) = ((16 * k : Nat) : Int))) ?_
        refine s_val rfl (v_add rfl rfl (wrapN (r.desc + 16 * k))) ?_
        refine s_do rfl (d_call3 Tryz.call197 rfl (rvRead_spec W0 _ qv qs qm d fr pg h hF (dsPa r k) (dsPa_lt r k) 16)) ?_
        rintro _ B_ ⟨a, c, rfl, hB_⟩
        obtain rfl := hB_.symm
        refine s_val rfl (v_move rfl) ?_
        refine s_val rfl (v_extract rfl rfl) ?_
        refine s_val rfl (v_extract rfl rfl) ?_
        refine s_val rfl (v_assign rfl) ?_
        refine s_val rfl (v_assign rfl) ?_
        refine x_nil ?_
        refine n_then ?_
        refine x_seq ?_
        refine x_seq ?_
        refine x_region ?_
        refine s_val rfl (v_move rfl) ?_
        refine s_val rfl (v_not rfl) ?_
        refine x_nil ?_
        refine n_then ?_
        refine x_if rfl ?_ ?_
        · intro c6
          have ho : ownB fr.length pg (dsPa r k) 16 = false := by simpa using c6
          refine x_seq ?_
          refine x_region ?_
          refine s_val rfl (v_build Tryz.underlying99 Tryz.zeroValue99 (sized_cons Tryz.sizeOf53 (sized_cons Tryz.sizeOf53 (sized_cons Tryz.sizeOf53 (sized_cons Tryz.sizeOf53 sized_nil)))) fil_nil) ?_
          refine s_do0 (d_storeAll Tryz.sizeOf99 rfl rfl rfl rfl rfl) ?_
          rintro _ _ rfl
          refine s_val rfl (v_assign rfl) ?_
          refine x_nil ?_
          refine n_then ?_
          refine x_ret ?_
          refine r_then ?_
          refine x_done (.inl rfl) (.cons (r_all Tryz.isAgg99 Tryz.sizeOf99 rfl rfl) (.cons (r_tmp rfl) .nil)) ?_
          refine ⟨_, ⟨?_, rfl⟩, inferInstance⟩
          have hl : lk fr pg r k n wr = (zD, 5) := by unfold lk; rw [if_neg (by omega), if_neg (by omega), Int.toNat_natCast, if_pos ho]
          rw [hl]; rfl
        · intro c6
          have ho : ownB fr.length pg (dsPa r k) 16 = true := Decidable.not_not.1 c6
          have ho' : ¬ ownB fr.length pg (dsPa r k) 16 = false := by rw [ho]; decide
          have hrd : rdO fr pg (dsPa r k) 16 = rdL fr pg (dsPa r k) 16 := by rw [rdO, if_pos ho]; rfl
          have hln : (rdL fr pg (dsPa r k) 16).length = 16 := rdL_len _ _ _ _
          have hda : dsOf (rdL fr pg (dsPa r k) 16) = dd := by rw [← hdd, dsAt, if_pos ho]
          rw [hrd]
          refine run_sla (E := 5) (sz := 1) (a := a) (c := c) (n := (rdL fr pg (dsPa r k) 16).length) (fun x => [bV x]) (rdL fr pg (dsPa r k) 16) (fun _ => rfl) (by decide) (byV_fm _).symm (fun hs1 => ?_)
          refine run_cap (E := 5) (sz := 1) (a := a) (c := c) (n := (rdL fr pg (dsPa r k) 16).length) (fun hcap => ?_)
          refine x_skip ?_
          refine n_then ?_
          refine x_seq ?_
          refine x_region ?_
          refine s_val rfl (v_move rfl) ?_
          refine s_do rfl (d_call Tryz.call251 rfl (rdGet_spec W0 _ a c _ hs1 (rdL_by hF _ _ _) hcap.1 (by rw [hln]; decide) (maxLen_lt hcap.2))) ?_
          rintro _ B_ ⟨rfl, hB_⟩
          obtain rfl := hB_.symm
          rw [if_pos hln, if_pos hln, hda]
          refine s_val rfl (v_move rfl) ?_
          refine s_val rfl (v_extract rfl rfl) ?_
          refine s_val rfl (v_extract rfl rfl) ?_
          refine s_do rfl (d_allocA Tryz.zeroValue99) ?_
          rintro _ _ ⟨bd, rfl, rfl⟩
          refine s_do0 (d_storeAll Tryz.sizeOf99 rfl rfl rfl rfl rfl) ?_
          rintro _ _ rfl
          refine s_val rfl (v_assign rfl) ?_
          refine x_nil ?_
          refine n_then ?_
          refine x_seq ?_
          rw [show rgV r = [.int .u32 r.desc, .int .u32 r.avail, .int .u32 r.used, .int .i64 rn] by rw [← hrn]]
          refine x_region ?_
          refine s_val rfl (v_loadAll Tryz.isAgg99 Tryz.sizeOf99 rfl rfl) ?_
          refine s_val rfl (v_fieldAddr rfl Tryz.underlying55 rfl Tryz.sizeOf3 rfl (by first | exact Nat.zero_add _ | rfl)) ?_
          refine s_val rfl (v_load Tryz.isAgg3 rfl (cell_own rfl)) ?_
          refine s_do rfl (d_call Tryz.call252 rfl (rdCheck_spec W0 _ dd hok rn (by omega))) ?_
          rintro _ B_ ⟨rfl, hB_⟩
          obtain rfl := hB_.symm
          refine s_val rfl (v_assign rfl) ?_
          refine x_nil ?_
          refine n_then ?_
          refine x_seq ?_
          refine x_seq ?_
          refine x_region ?_
          refine s_val rfl (v_move rfl) ?_
          refine s_val rfl (v_neq rfl rfl) ?_
          refine x_nil ?_
          refine n_then ?_
          refine x_if rfl ?_ ?_
          · intro c10
            refine x_seq ?_
            refine x_region ?_
            refine s_val rfl (v_build Tryz.underlying99 Tryz.zeroValue99 (sized_cons Tryz.sizeOf53 (sized_cons Tryz.sizeOf53 (sized_cons Tryz.sizeOf53 (sized_cons Tryz.sizeOf53 sized_nil)))) fil_nil) ?_
            refine s_val rfl (v_move rfl) ?_
            refine s_do0 (d_storeAll Tryz.sizeOf99 rfl rfl rfl rfl rfl) ?_
            rintro _ _ rfl
            refine s_val rfl (v_assign rfl) ?_
            refine x_nil ?_
            refine n_then ?_
            refine x_ret ?_
            refine r_then ?_
            refine x_done (.inl rfl) (.cons (r_all Tryz.isAgg99 Tryz.sizeOf99 rfl rfl) (.cons (r_tmp rfl) .nil)) ?_
            refine ⟨_, ⟨?_, rfl⟩, inferInstance⟩
            have hl : lk fr pg r k n wr = (zD, chkC dd rn) := by unfold lk; rw [if_neg (by omega), if_neg (by omega), Int.toNat_natCast, if_neg ho', hdd, show r.n.toNat = rn by omega, if_pos c10]
            rw [hl]; rfl
          · intro c10
            refine x_skip ?_
            refine n_then ?_
            refine x_seq ?_
            refine x_seq ?_
            refine x_region ?_
            refine s_val rfl (v_move rfl) ?_
            refine s_val rfl (v_fieldAddr rfl Tryz.underlying99 rfl Tryz.sizeOf53 rfl (by first | exact Nat.zero_add _ | rfl)) ?_
            refine s_val rfl (v_load Tryz.isAgg53 rfl (cell_own rfl)) ?_
            refine s_val rfl (v_fieldAddr rfl Tryz.underlying99 rfl Tryz.sizeOf53 rfl (by first | exact Nat.zero_add _ | rfl)) ?_
            refine s_val rfl (v_load Tryz.isAgg53 rfl (cell_own rfl)) ?_
            refine s_val rfl (v_conv Tryz.underlying53 Tryz.underlying3 rfl (w64 (by have := hok.len; omega))) ?_
            refine s_do rfl (d_call3 Tryz.call98 rfl (rvOwn_spec W0 _ qv qs qm d fr pg h dd.addr hok.addr dd.len)) ?_
            rintro _ B_ ⟨rfl, hB_⟩
            obtain rfl := hB_.symm
            refine s_val rfl (v_not rfl) ?_
            refine x_nil ?_
            refine n_then ?_
            refine x_if rfl ?_ ?_
            · intro c12
              have ho2 : ownB fr.length pg dd.addr dd.len = false := by simpa using c12
              refine x_seq ?_
              refine x_region ?_
              refine s_val rfl (v_build Tryz.underlying99 Tryz.zeroValue99 (sized_cons Tryz.sizeOf53 (sized_cons Tryz.sizeOf53 (sized_cons Tryz.sizeOf53 (sized_cons Tryz.sizeOf53 sized_nil)))) fil_nil) ?_
              refine s_do0 (d_storeAll Tryz.sizeOf99 rfl rfl rfl rfl rfl) ?_
              rintro _ _ rfl
              refine s_val rfl (v_assign rfl) ?_
              refine x_nil ?_
              refine n_then ?_
              refine x_ret ?_
              refine r_then ?_
              refine x_done (.inl rfl) (.cons (r_all Tryz.isAgg99 Tryz.sizeOf99 rfl rfl) (.cons (r_tmp rfl) .nil)) ?_
              refine ⟨_, ⟨?_, rfl⟩, inferInstance⟩
              have hl : lk fr pg r k n wr = (zD, 5) := by unfold lk; rw [if_neg (by omega), if_neg (by omega), Int.toNat_natCast, if_neg ho', hdd, show r.n.toNat = rn by omega, if_neg c10, if_pos ho2]
              rw [hl]; rfl
            · intro c12
              have ho2 : ¬ ownB fr.length pg dd.addr dd.len = false := by simpa using c12
              have hf4 : dd.flags < 4 := by
                rcases Nat.lt_or_ge dd.flags 4 with q | q
                · exact q
                · exact absurd (by rw [chkC, if_pos q]; decide) c10
              have hwb : wrB dd = true ↔ 2 ≤ dd.flags := by rw [wrB, decide_eq_true_iff]; omega
              refine x_skip ?_
              refine n_then ?_
              refine x_seq ?_
              refine x_seq ?_
              refine x_region ?_
              refine s_val rfl (v_move rfl) ?_
              refine s_val rfl (v_move rfl) ?_
              refine s_and rfl rfl rfl ?_ ?_
              · intro g14_2
                refine s_val rfl (v_fieldAddr rfl Tryz.underlying99 rfl Tryz.sizeOf53 rfl (by first | exact Nat.zero_add _ | rfl)) ?_
                refine s_yes rfl rfl ?_
                refine s_val rfl (v_load Tryz.isAgg53 rfl (cell_own rfl)) ?_
                refine s_yes rfl rfl ?_
                refine s_val rfl (v_lss rfl rfl) ?_
                refine s_val rfl (v_pick_t rfl rfl) ?_
                refine x_nil ?_
                refine n_then ?_
                refine x_if rfl ?_ ?_
                · intro c14
                  refine x_seq ?_
                  refine x_region ?_
                  refine s_val rfl (v_build Tryz.underlying99 Tryz.zeroValue99 (sized_cons Tryz.sizeOf53 (sized_cons Tryz.sizeOf53 (sized_cons Tryz.sizeOf53 (sized_cons Tryz.sizeOf53 sized_nil)))) fil_nil) ?_
                  refine s_do0 (d_storeAll Tryz.sizeOf99 rfl rfl rfl rfl rfl) ?_
                  rintro _ _ rfl
                  refine s_val rfl (v_assign rfl) ?_
                  refine x_nil ?_
                  refine n_then ?_
                  refine x_ret ?_
                  refine r_then ?_
                  refine x_done (.inl rfl) (.cons (r_all Tryz.isAgg99 Tryz.sizeOf99 rfl rfl) (.cons (r_tmp rfl) .nil)) ?_
                  refine ⟨_, ⟨?_, rfl⟩, inferInstance⟩
                  have hl : lk fr pg r k n wr = (zD, 6) := by unfold lk; rw [if_neg (by omega), if_neg (by omega), Int.toNat_natCast, if_neg ho', hdd, show r.n.toNat = rn by omega, if_neg c10, if_neg ho2, if_pos ⟨g14_2, by rw [← Bool.not_eq_true, hwb]; omega⟩]
                  rw [hl]; rfl
                · intro c14
                  refine x_skip ?_
                  refine n_then ?_
                  refine x_seq ?_
                  refine x_region ?_
                  refine s_val rfl (v_loadAll Tryz.isAgg99 Tryz.sizeOf99 rfl rfl) ?_
                  refine s_do0 (d_storeAll Tryz.sizeOf99 rfl rfl rfl rfl rfl) ?_
                  rintro _ _ rfl
                  refine s_val rfl (v_assign rfl) ?_
                  refine x_nil ?_
                  refine n_then ?_
                  refine x_ret ?_
                  refine x_done (.inl rfl) (.cons (r_all Tryz.isAgg99 Tryz.sizeOf99 rfl rfl) (.cons (r_tmp rfl) .nil)) ?_
                  refine ⟨_, ⟨?_, rfl⟩, inferInstance⟩
                  have hl : lk fr pg r k n wr = (dd, 0) := by unfold lk; rw [if_neg (by omega), if_neg (by omega), Int.toNat_natCast, if_neg ho', hdd, show r.n.toNat = rn by omega, if_neg c10, if_neg ho2, if_neg (by rintro ⟨q1, q2⟩; rw [← Bool.not_eq_true, hwb] at q2; first | exact g14_2 q1 | omega)]
                  rw [hl]; rfl
              · intro g14_2
                refine s_no rfl rfl rfl rfl ?_
                refine s_no rfl rfl rfl rfl ?_
                refine s_val rfl (v_pick_f rfl rfl) ?_
                refine x_nil ?_
                refine n_then ?_
                refine x_iff rfl ?_
                refine x_skip ?_
                refine n_then ?_
                refine x_seq ?_
                refine x_region ?_
                refine s_val rfl (v_loadAll Tryz.isAgg99 Tryz.sizeOf99 rfl rfl) ?_
                refine s_do0 (d_storeAll Tryz.sizeOf99 rfl rfl rfl rfl rfl) ?_
                rintro _ _ rfl
                refine s_val rfl (v_assign rfl) ?_
                refine x_nil ?_
                refine n_then ?_
                refine x_ret ?_
                refine x_done (.inl rfl) (.cons (r_all Tryz.isAgg99 Tryz.sizeOf99 rfl rfl) (.cons (r_tmp rfl) .nil)) ?_
                refine ⟨_, ⟨?_, rfl⟩, inferInstance⟩
                have hl : lk fr pg r k n wr = (dd, 0) := by unfold lk; rw [if_neg (by omega), if_neg (by omega), Int.toNat_natCast, if_neg ho', hdd, show r.n.toNat = rn by omega, if_neg c10, if_neg ho2, if_neg (by rintro ⟨q1, q2⟩; rw [← Bool.not_eq_true, hwb] at q2; first | exact g14_2 q1 | omega)]
                rw [hl]; rfl
theorem rcWalk_spec (W0 : World) (R : List HP) (qv qs qm d : Nat) (fr : List Frm) (pg : List Pl) (h : Pgs pg) (hF : Frs fr) (r : Rg3) (hr : r.ok) (head : Int) :
    Spec Tryz.prog W0 179 [.pointer (some ⟨qv, 0, none⟩), .agg (rgV r).toArray, .int .i64 head] (rvw qv qs qm d fr pg R)
      (fun v B => ∃ a c, v = .tuple #[.slice a (wkAll fr pg r head).1.length c, .int .i64 (wkAll fr pg r head).2] ∧ B = osl 99 4 (.slice a (wkAll fr pg r head).1.length c) ((wkAll fr pg r head).1.flatMap dsV) :: rvw qv qs qm d fr pg R) := by
  refine spec_body Tryz.func179 Tryz.ntmps179 rfl rfl ?_
  refine x_seq ?_
  refine x_region ?_
  refine s_do rfl (d_boxA rfl) ?_
  rintro _ _ ⟨b1, rfl, rfl⟩
  refine s_val rfl (v_assign rfl) ?_
  refine s_val rfl (v_assign rfl) ?_
  refine x_nil ?_
  refine n_then ?_
  refine x_seq ?_
  refine x_seq ?_
  refine x_region ?_
  refine s_val rfl (v_loadAll Tryz.isAgg55 Tryz.sizeOf55 rfl rfl) ?_
  refine s_do rfl (d_call Tryz.call97 rfl (rdRight_spec W0 _ r)) ?_
  rintro _ B_ ⟨rfl, hB_⟩
  obtain rfl := hB_.symm
  refine s_val rfl (v_not rfl) ?_
  refine x_nil ?_
  refine n_then ?_
  refine x_if rfl ?_ ?_
  · intro c1
    refine x_seq ?_
    refine x_region ?_
    refine s_val rfl (v_assign rfl) ?_
    refine s_val rfl (v_assign rfl) ?_
    refine x_nil ?_
    refine n_then ?_
    refine x_ret ?_
    refine r_then ?_
    refine x_done (.inl rfl) (.cons (r_tmp rfl) (.cons (r_tmp rfl) .nil)) ?_
    have hw : wkAll fr pg r head = ([], 5) := by rw [wkAll, if_neg c1]
    rw [hw]
    exact ⟨_, ⟨none, 0, rfl, rfl⟩, ent_osl_nil⟩
  · intro c1
    have hri : rgtB r = true := Decidable.not_not.1 c1
    have hn8 : 0 ≤ r.n ∧ r.n ≤ 8 := by have := (rgtB_iff.1 hri).2; simp only [szd, decide_eq_true_iff] at this; omega
    have hw : wkAll fr pg r head = wkGo fr pg r head 9 0 := by rw [wkAll, if_pos hri]
    refine x_skip ?_
    refine n_then ?_
    refine x_seq ?_
    refine x_region ?_
    refine s_val rfl (v_assign rfl) ?_
    refine x_nil ?_
    refine n_then ?_
    refine x_seq ?_
    refine x_region ?_
    refine s_val rfl (v_move rfl) ?_
    refine s_val rfl (v_assign rfl) ?_
    refine x_nil ?_
    refine n_then ?_
    refine x_seq ?_
    refine x_region ?_
    refine s_val rfl (v_assign rfl) ?_
    refine x_nil ?_
    refine n_then ?_
    refine x_seq ?_
    refine x_seq ?_
    refine x_region ?_
    refine s_val rfl (v_assign rfl) ?_
    refine x_nil ?_
    refine n_then ?_
    refine x_block ?_
    refine x_loop (fun X : Nat × Option Addr × Nat => alive fr pg r head X.1) (fun X => [(0, .pointer (some ⟨qv, 0, none⟩)), (4, .pointer (some ⟨b1, 0, none⟩)), (8, .slice X.2.1 X.1 X.2.2), (9, .int .i64 (wkSt fr pg r head X.1).1), (10, .bool (wkSt fr pg r head X.1).2.1), (11, .int .i64 X.1)]) (fun X => osl 99 4 (.slice X.2.1 X.1 X.2.2) ((wkSt fr pg r head X.1).2.2.flatMap dsV) :: pt b1 (cob (rgV r) 55) :: rvw qv qs qm d fr pg R) (fun X => 9 - X.1) (0, none, 0) ?_ ?_ ?_ ?_
    · exact fun m hm => absurd hm (Nat.not_lt_zero m)
    · repeat (first | exact sub_nil | refine sub_cons rfl ?_)
    · exact ent_osl_nil
    · intro ⟨n, a, c⟩ hal
      dsimp only at hal ⊢
      have hn := hal.le hn8
      have hlen := wkSt_len fr pg r head n
      have hdok := lk_ok hF pg r (wkSt fr pg r head n).1 n (wkSt fr pg r head n).2.1
      refine x_seq ?_
      refine x_seq ?_
      refine x_region ?_
      refine s_val rfl (v_move rfl) ?_
      refine s_val rfl (v_fieldAddr rfl Tryz.underlying55 rfl Tryz.sizeOf3 rfl (by first | exact Nat.zero_add _ | rfl)) ?_
      refine s_val rfl (v_load Tryz.isAgg3 rfl (cell_own rfl)) ?_
      refine s_val rfl (v_leq rfl rfl) ?_
      refine x_nil ?_
      refine n_then ?_
      refine x_if rfl ?_ ?_
      · intro c7
        refine x_skip ?_
        refine n_then ?_
        refine x_seq ?_
        refine x_block ?_
        refine x_seq ?_
        refine x_region ?_
        refine s_val rfl (v_move rfl) ?_
        refine s_val rfl (v_loadAll Tryz.isAgg55 Tryz.sizeOf55 rfl rfl) ?_
        refine s_val rfl (v_move rfl) ?_
        refine s_val rfl (v_move rfl) ?_
        refine s_val rfl (v_move rfl) ?_
        refine s_do rfl (d_call3 Tryz.call227 rfl (rcWrong_spec W0 _ qv qs qm d fr pg h hF r hr hn8.2 (wkSt fr pg r head n).2.1 (wkSt fr pg r head n).1 n)) ?_
        rintro _ B_ ⟨rfl, hB_⟩
        obtain rfl := hB_.symm
        refine s_val rfl (v_move rfl) ?_
        refine s_val rfl (v_extract rfl rfl) ?_
        refine s_val rfl (v_extract rfl rfl) ?_
        refine s_do rfl (d_allocA Tryz.zeroValue99) ?_
        rintro _ _ ⟨bd, rfl, rfl⟩
        refine s_do0 (d_storeAll Tryz.sizeOf99 rfl rfl rfl rfl rfl) ?_
        rintro _ _ rfl
        refine s_val rfl (v_assign rfl) ?_
        refine x_nil ?_
        refine n_then ?_
        refine x_seq ?_
        refine x_seq ?_
        refine x_region ?_
        refine s_val rfl (v_move rfl) ?_
        refine s_val rfl (v_neq rfl rfl) ?_
        refine x_nil ?_
        refine n_then ?_
        refine x_if rfl ?_ ?_
        · intro c10
          refine x_seq ?_
          refine x_region ?_
          refine s_val rfl (v_move rfl) ?_
          refine s_val rfl (v_assign rfl) ?_
          refine s_val rfl (v_assign rfl) ?_
          refine x_nil ?_
          refine n_then ?_
          refine x_ret ?_
          refine r_then ?_
          refine r_block ?_
          refine r_then ?_
          refine r_then ?_
          refine r_block ?_
          refine r_then ?_
          refine x_done (.inl rfl) (.cons (r_tmp rfl) (.cons (r_tmp rfl) .nil)) ?_
          rw [hw, wkGo_stop hal hn c10]
          exact ⟨_, ⟨none, 0, rfl, rfl⟩, ent_osl_nil⟩
        · intro c10
          have hc : (lkN fr pg r head n).2 = 0 := Decidable.not_not.1 c10
          have hf4 : (lkN fr pg r head n).1.flags < 4 := lk_flags hc
          have hlt : (n : Int) < r.n := lk_n hc
          have hwb : decide ((2 : Int) ≤ ((lkN fr pg r head n).1.flags : Int)) = wrB (lkN fr pg r head n).1 := by rw [Bool.eq_iff_iff, wrB, decide_eq_true_iff, decide_eq_true_iff]; omega
          refine x_skip ?_
          refine n_then ?_
          refine x_seq ?_
          refine x_region ?_
          refine s_val rfl (v_move rfl) ?_
          refine s_val rfl (v_loadAll Tryz.isAgg99 Tryz.sizeOf99 rfl rfl) ?_
          refine s_do rfl (d_sliceAgg Tryz.underlying43 Tryz.sizeOf99 Tryz.zeroValue99 rfl (elsK_cons rfl rfl elsK_nil) rfl (by decide) (by decide) (by decide)) ?_
          rintro _ _ ⟨b3, rfl, rfl⟩
          refine s_do rfl (d_append (sz := 4) (by_ := 16) (info := Tryz.t99) Tryz.underlying43 (by kernel_rfl) rfl rfl rfl rfl (by decide) rfl rfl cells_all rfl rfl (by simp only [maxLen]; omega) (by omega)) ?_
          rintro _ _ ⟨a1, c1, rfl, rfl⟩
          refine s_val rfl (v_assign rfl) ?_
          refine x_nil ?_
          refine n_then ?_
          refine x_seq ?_
          refine x_region ?_
          refine s_val rfl (v_fieldAddr rfl Tryz.underlying99 rfl Tryz.sizeOf53 rfl (by first | exact Nat.zero_add _ | rfl)) ?_
          refine s_val rfl (v_load Tryz.isAgg53 rfl (cell_own rfl)) ?_
          refine s_val rfl (v_geq rfl rfl) ?_
          refine s_val rfl (v_assign rfl) ?_
          refine x_nil ?_
          refine n_then ?_
          refine x_seq ?_
          refine x_seq ?_
          refine x_region ?_
          refine s_val rfl (v_fieldAddr rfl Tryz.underlying99 rfl Tryz.sizeOf53 rfl (by first | exact Nat.zero_add _ | rfl)) ?_
          refine s_val rfl (v_load Tryz.isAgg53 rfl (cell_own rfl)) ?_
          refine s_val rfl (v_rem rfl rfl (by decide) (tmodN (lkN fr pg r head n).1.flags 2)) ?_
          refine s_val rfl (v_eql rfl rfl) ?_
          refine x_nil ?_
          refine n_then ?_
          refine x_if rfl ?_ ?_
          · intro c14
            refine x_seq ?_
            refine x_region ?_
            refine s_val rfl (v_move rfl) ?_
            refine s_val rfl (v_assign rfl) ?_
            refine s_val rfl (v_assign rfl) ?_
            refine x_nil ?_
            refine n_then ?_
            refine x_ret ?_
            refine r_then ?_
            refine r_block ?_
            refine r_then ?_
            refine r_then ?_
            refine r_block ?_
            refine r_then ?_
            refine x_done (.inl rfl) (.cons (r_tmp rfl) (.cons (r_tmp rfl) .nil)) ?_
            have hg : goB (lkN fr pg r head n).1 = false := by rw [goB, decide_eq_false_iff_not]; omega
            have hst : (wkSt fr pg r head (n + 1)).2.2 = (wkSt fr pg r head n).2.2 ++ [(lkN fr pg r head n).1] := rfl
            rw [hw, wkGo_end hal hn hc hg, hst, List.length_append, List.flatMap_append, hlen]
            refine ⟨_, ⟨a1, c1, rfl, rfl⟩, ?_⟩
            show Ent (osl 99 4 (.slice a1 (n + 1) c1) ((wkSt fr pg r head n).2.2.flatMap dsV ++ [dsV (lkN fr pg r head n).1].flatten) :: _) (osl 99 4 (.slice a1 (n + 1) c1) ((wkSt fr pg r head n).2.2.flatMap dsV ++ [dsV (lkN fr pg r head n).1].flatten) :: _)
            exact inferInstance
          · intro c14
            have hg : goB (lkN fr pg r head n).1 = true := by rw [goB, decide_eq_true_iff]; omega
            refine x_skip ?_
            refine n_then ?_
            refine x_region ?_
            refine s_val rfl (v_fieldAddr rfl Tryz.underlying99 rfl Tryz.sizeOf53 rfl (by first | exact Nat.zero_add _ | rfl)) ?_
            refine s_val rfl (v_load Tryz.isAgg53 rfl (cell_own rfl)) ?_
            refine s_val rfl (v_conv Tryz.underlying53 Tryz.underlying3 rfl (w64 (by have := hdok.next; omega))) ?_
            refine s_val rfl (v_assign rfl) ?_
            refine x_nil ?_
            refine n_block ?_
            refine n_then ?_
            refine x_region ?_
            refine s_val rfl (v_move rfl) ?_
            refine s_val rfl (v_add rfl rfl (by first | exact w64 (by omega) | rfl)) ?_
            refine s_val rfl (v_assign rfl) ?_
            refine x_nil ?_
            refine n_then ?_
            refine inv_intro (n + 1, a1, c1) ?_ ?_ ?_ ?_
            · exact hal.succ hc hg
            · omega
            · have ew : Value.bool (wkSt fr pg r head (n + 1)).2.1 = .bool (decide ((2 : Int) ≤ ((lkN fr pg r head n).1.flags : Int))) := congrArg Value.bool hwb.symm
              dsimp only
              rw [ew]
              repeat (first | exact sub_nil | refine sub_cons rfl ?_)
            · have hst : (wkSt fr pg r head (n + 1)).2.2 = (wkSt fr pg r head n).2.2 ++ [(lkN fr pg r head n).1] := rfl
              dsimp only
              rw [hst, List.flatMap_append]
              show Ent (osl 99 4 (.slice a1 (n + 1) c1) ((wkSt fr pg r head n).2.2.flatMap dsV ++ [dsV (lkN fr pg r head n).1].flatten) :: _) (osl 99 4 (.slice a1 (n + 1) c1) ((wkSt fr pg r head n).2.2.flatMap dsV ++ [dsV (lkN fr pg r head n).1].flatten) :: _)
              exact inferInstance
      · intro c7
        refine x_exit ?_
        refine e_then ?_
        refine e_then ?_
        refine e_block ?_
        refine n_then ?_
        refine x_seq ?_
        refine x_region ?_
        refine s_val rfl (v_assign rfl) ?_
        refine s_val rfl (v_assign rfl) ?_
        refine x_nil ?_
        refine n_then ?_
        refine x_ret ?_
        refine x_done (.inl rfl) (.cons (r_tmp rfl) (.cons (r_tmp rfl) .nil)) ?_
        exfalso
        rcases Nat.eq_zero_or_pos n with q | q
        · omega
        · have := lk_n (hal (n - 1) (by omega)).1; omega
end Go.Proofs.YtechkfopkpkigaaGreat
