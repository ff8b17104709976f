/-
  Layer 22 (chain): the walk of ChainBack.
-/
import Derived.Test.YtpmacnfjafpdcabChainBackP
import Derived.Test.YtpmacnfjafpdcabChainLawB
namespace Go.Proofs.Ytpmacnfjafpdcab
open Go.RowKit
set_option linter.unusedSimpArgs false
set_option linter.unusedVariables false
set_option maxRecDepth 20000

theorem chScatterN (W0 : World) (R : List HP) (pv ps pm d c cb n : Nat) (a ab : Option Addr) (fr : List Frm) (pg : List Pl) (h : Pgs pg) (hF : Frs fr) (hd : d < 4096) (l : List Dsc) (hln : l.length = n) (hs : SlA (OwnP W0 R) a 4 dsV l) (hl : ∀ x ∈ l, x.ok) (hn : n ≤ 1000) (from_ : Int) (hf : -9223372036854775808 ≤ from_ ∧ from_ < 9223372036854775808)
    (bs : List Nat) (hb : By bs) (hsb : SlA (OwnP W0 R) ab 1 (fun x => [bV x]) bs) (hbl : bs.length < 9223372036854775808) (hcb : bs.length ≤ cb) :
    Spec Try.prog W0 8 [.pointer (some ⟨pv, 0, none⟩), .slice a n c, .int .i64 from_, .slice ab bs.length cb] (vw pv ps pm d fr pg R)
      (fun v B => v = .int .i64 ((scK fr pg d l from_ bs n).2.1 : Nat) ∧ B = vw pv ps pm (scK fr pg d l from_ bs n).2.2.2 (scK fr pg d l from_ bs n).2.2.1 pg R) := by
  subst hln; exact chScatter_spec W0 R pv ps pm d c cb a ab fr pg h hF hd l hs hl hn from_ hf bs hb hsb hbl hcb
theorem chGatherN (W0 : World) (R : List HP) (pv ps pm d c n : Nat) (a : Option Addr) (fr : List Frm) (pg : List Pl) (h : Pgs pg) (hF : Frs fr) (l : List Dsc) (hln : l.length = n) (hs : SlA (OwnP W0 R) a 4 dsV l) (hl : ∀ x ∈ l, x.ok) (hn : n ≤ 1000) (most : Int) (hm : -9223372036854775808 ≤ most ∧ most < 9223372036854775808) :
    Spec Try.prog W0 9 [.pointer (some ⟨pv, 0, none⟩), .slice a n c, .int .i64 most] (vw pv ps pm d fr pg R)
      (fun v B => ∃ a' c', v = .slice a' (gthK fr pg l most n).length c' ∧ B = osl 5 1 (.slice a' (gthK fr pg l most n).length c') (byV (gthK fr pg l most n)) :: vw pv ps pm d fr pg R) := by
  subst hln; exact chGather_spec W0 R pv ps pm d c a fr pg h hF l hs hl hn most hm
theorem base_cells {W : World} {a : Option Addr} {bs : List Nat} (h : SlB W a 1 (fun x => [bV x]) bs) : ∃ g o, (∀ A, Cells (OwnP W A) g o (byV bs)) ∧ ∀ S, Cells S g o (byV bs) → SlA S a 1 (fun x => [bV x]) bs := by
  by_cases h0 : bs = []
  · subst h0; exact ⟨0, 0, fun A i v hi => by simp [byV] at hi, fun S _ => sla_nil⟩
  · obtain ⟨b, off, hb, h1⟩ := (sla_base (A := []) h).all h0 (fun _ => rfl)
    subst hb
    have hcell : ∀ A, Cells (OwnP W A) b off (byV bs) := fun A => by
      obtain ⟨b', off', hb', h1'⟩ := (sla_base (A := A) h).all h0 (fun _ => rfl)
      cases hb'; rw [byV_fm] at h1'; exact h1'
    refine ⟨b, off, hcell, fun S hS i x hi => ⟨b, off, rfl, fun j v hj => ?_⟩⟩
    have hilt : i < bs.length := by
      rcases Nat.lt_or_ge i bs.length with q | q
      · exact q
      · rw [List.getElem?_eq_none q] at hi; cases hi
    have hx : bs[i] = x := by rw [List.getElem?_eq_getElem hilt] at hi; exact Option.some.inj hi
    have hj0 : j = 0 := by
      rcases Nat.eq_zero_or_pos j with q | q
      · exact q
      · rw [List.getElem?_eq_none (by simp; omega)] at hj; cases hj
    subst hj0
    have := hS i (bV bs[i]) (byV_get bs i hilt)
    simp only [List.getElem?_cons_zero, Option.some.injEq] at hj
    rw [Nat.mul_one, Nat.add_zero, ← hj, ← hx]; exact this

theorem ChainBack_walk (W0 : World) (aa al ab : Option Addr) (ca cl cb : Nat) (ats lens bs : List Nat) (f : Nat) (hfb : f < 256) (h1 : SlB W0 aa 1 (fun x => [bV x]) ats) (hb1 : By ats) (hl1 : ats.length < 9223372036854775808) (h2 : SlB W0 al 1 (fun x => [bV x]) lens) (hb2 : By lens) (hl2 : lens.length < 9223372036854775808)
    (hsb : SlB W0 ab 1 (fun x => [bV x]) bs) (hb : By bs) (hbl : bs.length < 9223372036854775808) (hcb : bs.length ≤ cb) :
    Spec Try.prog W0 3 [.slice aa ats.length ca, .slice al lens.length cl, .slice ab bs.length cb, .int .u8 f] [] (fun v B => v = .bool true ∧ B = []) := by
  have hP := pg22_ok 0 8
  obtain ⟨hF, hFl, hd⟩ := mk22_ok 0 [] []
  refine spec_body Try.func3 Try.ntmps3 rfl rfl ?_
  refine x_seq ?_
  refine x_region ?_
  refine s_val rfl (v_assign rfl) ?_
  refine x_nil ?_
  refine n_then ?_
  refine x_seq ?_
  refine x_region ?_
  refine s_do rfl (d_call Try.call7 rfl (made22_spec W0 _ 0 (by decide) _ _ _ _ [] [] sla_nil (fun d hd => by simp at hd) (by decide) sla_nil (fun t ht => by simp at ht) (by decide))) ?_
  rintro _ B_ ⟨pv, ps, pm, qv, qs, qm, rfl, hB_⟩
  obtain rfl := hB_.symm
  generalize (mk22 0 [] []).1 = fr at hF hFl
  generalize (mk22 0 [] []).2 = dd at hd
  refine s_val rfl (v_move rfl) ?_
  refine s_val rfl (v_extract rfl rfl) ?_
  refine s_val rfl (v_extract rfl rfl) ?_
  refine s_val rfl (v_assign rfl) ?_
  refine s_val rfl (v_assign rfl) ?_
  refine x_nil ?_
  refine n_then ?_
  refine x_seq ?_
  refine x_seq ?_
  refine x_region ?_
  refine s_val rfl (v_move rfl) ?_
  refine s_val rfl (v_eql_ptr_nil Try.underlying23 rfl rfl) ?_
  refine x_nil ?_
  refine n_then ?_
  refine x_if rfl ?_ ?_
  · intro c2
    cases c2
  · intro c2
    refine x_skip ?_
    refine n_then ?_
    refine x_seq ?_
    refine x_region ?_
    refine s_val rfl (v_assign rfl) ?_
    refine x_nil ?_
    refine n_then ?_
    refine x_seq ?_
    refine x_region ?_
    refine s_val rfl (v_assign rfl) ?_
    refine x_nil ?_
    refine n_then ?_
    refine x_seq ?_
    refine x_region ?_
    refine s_val rfl (v_assign rfl) ?_
    refine x_nil ?_
    refine n_then ?_
    refine x_seq ?_
    refine x_seq ?_
    refine x_region ?_
    refine s_val rfl (v_assign rfl) ?_
    refine x_nil ?_
    refine n_then ?_
    refine x_block ?_
    refine x_loop (fun X : Nat × (Option Addr × Nat) × Option Addr × Nat => X.1 ≤ min lens.length 7) (fun X => [(0, .slice aa ats.length ca), (1, .slice al lens.length cl), (2, .slice ab bs.length cb), (3, .int .u8 f), (9, .pointer (some ⟨pv, 0, none⟩)), (11, .slice X.2.1.1 X.1 X.2.1.2), (12, .slice X.2.2.1 X.1 X.2.2.2), (13, .int .i64 (bkP lens X.1 : Nat)), (14, .int .i64 X.1)]) (fun X => osl 30 4 (.slice X.2.1.1 X.1 X.2.1.2) ((bkO ats lens 2 X.1).flatMap dsV) :: osl 30 4 (.slice X.2.2.1 X.1 X.2.2.2) ((bkO ats lens 0 X.1).flatMap dsV) :: pt pv (viO ps pm dd) :: stoH ps fr :: pt pm (gmO (pg22 0 8)) :: []) (fun X => 7 - X.1) (0, (none, 0), none, 0) ?_ ?_ ?_ ?_
    · exact Nat.zero_le _
    · repeat (first | exact sub_nil | refine sub_cons rfl ?_)
    · exact ent_osl_nil (k := ent_osl_nil)
    · intro ⟨i, ⟨a1, c1⟩, a2, c2⟩ hi
      dsimp only at hi ⊢
      have hbp := bkP_le lens i
      refine x_seq ?_
      refine x_seq ?_
      refine x_region ?_
      refine s_val rfl (v_move rfl) ?_
      refine s_val rfl (v_move rfl) ?_
      refine s_val rfl (v_len_slice Try.underlying22 rfl) ?_
      refine s_val rfl (v_lss rfl rfl) ?_
      refine s_val rfl (v_move rfl) ?_
      refine s_and rfl rfl rfl ?_ ?_
      · intro g8_5
        refine s_val rfl (v_move rfl) ?_
        refine s_yes rfl rfl ?_
        refine s_val rfl (v_lss rfl rfl) ?_
        refine s_val rfl (v_pick_t rfl rfl) ?_
        refine x_nil ?_
        refine n_then ?_
        refine x_if rfl ?_ ?_
        · intro c8
          refine x_skip ?_
          refine n_then ?_
          refine x_seq ?_
          refine x_block ?_
          refine x_seq ?_
          have hi1 : i < lens.length := by omega
          obtain ⟨gl, ol, rfl, hcl⟩ := h2 i lens[i] (by simp [hi1])
          have hli : lens[i] < 256 := hb2.get hi1
          have hN : lens[i] % 33 = bkN lens i := by rw [bkN, List.getD_eq_getElem?_getD, List.getElem?_eq_getElem hi1, Option.getD_some]
          have hNl := bkN_lt lens i
          have hpi : bkP lens (i + 1) = bkP lens i + bkN lens i := rfl
          have hAl := bkA_lt ats i
          refine x_region ?_
          refine s_val rfl (v_move rfl) ?_
          refine s_val rfl (v_move rfl) ?_
          refine s_val rfl (v_idx Try.underlying22 Try.sizeOf5 rfl rfl rfl hi1 (by first | exact Nat.zero_add _ | rfl)) ?_
          refine s_val rfl (v_load Try.isAgg5 rfl (Cells.weak (hcl []) 0 _ rfl)) ?_
          refine s_val rfl (v_rem rfl rfl (by decide) ((tmodN lens[i] 33).trans (congrArg Int.ofNat hN))) ?_
          refine s_val rfl (v_conv Try.underlying5 Try.underlying28 rfl (w32u (by simp only [Int.ofNat_eq_natCast]; omega))) ?_
          refine s_val rfl (v_assign rfl) ?_
          refine x_nil ?_
          refine n_then ?_
          refine x_seq ?_
          simp only [Int.ofNat_eq_natCast]
          refine x_region ?_
          refine s_val rfl (v_move rfl) ?_
          refine s_val rfl (v_add rfl rfl (by first | exact w64 (by omega) | rfl)) ?_
          refine s_val rfl (v_mul rfl rfl (by rw [w64 (by omega)]; omega : IntKind.wrap .i64 (64 * ((i : Int) + 1)) = ((64 * (i + 1) : Nat) : Int))) ?_
          refine s_val rfl (v_conv Try.underlying3 Try.underlying28 rfl (w32u (by omega))) ?_
          refine s_val rfl (v_assign rfl) ?_
          refine x_nil ?_
          refine n_then ?_
          refine x_seq ?_
          refine x_seq ?_
          refine x_region ?_
          refine s_val rfl (v_move rfl) ?_
          refine s_val rfl (v_move rfl) ?_
          refine s_val rfl (v_len_slice Try.underlying22 rfl) ?_
          refine s_val rfl (v_lss rfl rfl) ?_
          refine x_nil ?_
          refine n_then ?_
          refine x_if rfl ?_ ?_
          · intro c12
            have hia : i < ats.length := by omega
            obtain ⟨ga, oa, rfl, hca⟩ := h1 i ats[i] (by simp [hia])
            have hai : ats[i] < 256 := hb1.get hia
            have hA : ((64 * (i + 1) + ats[i] % 32 : Nat) : Int) = ((bkA ats i : Nat) : Int) := by rw [bkA, if_pos hia, List.getD_eq_getElem?_getD, List.getElem?_eq_getElem hia, Option.getD_some]
            refine x_region ?_
            refine s_val rfl (v_move rfl) ?_
            refine s_val rfl (v_move rfl) ?_
            refine s_val rfl (v_move rfl) ?_
            refine s_val rfl (v_idx Try.underlying22 Try.sizeOf5 rfl rfl rfl hia (by first | exact Nat.zero_add _ | rfl)) ?_
            refine s_val rfl (v_load Try.isAgg5 rfl (Cells.weak (hca []) 0 _ rfl)) ?_
            refine s_val rfl (v_rem rfl rfl (by decide) (tmodN ats[i] 32)) ?_
            refine s_val rfl (v_conv Try.underlying5 Try.underlying28 rfl (w32u (by omega))) ?_
            refine s_val rfl (v_add rfl rfl (by rw [w32u (by omega)]; omega : IntKind.wrap .u32 (((64 * (i + 1) : Nat) : Int) + ((ats[i] % 32 : Nat) : Int)) = ((64 * (i + 1) + ats[i] % 32 : Nat) : Int))) ?_
            refine s_val rfl (v_assign rfl) ?_
            refine x_nil ?_
            refine n_then ?_
            refine x_seq ?_
            rw [hA]
            refine x_region ?_
            refine s_val rfl (v_move rfl) ?_
            refine s_val rfl (v_move rfl) ?_
            refine s_val rfl (v_move rfl) ?_
            refine s_val rfl (v_build Try.underlying30 Try.zeroValue30 (sized_cons Try.sizeOf28 (sized_cons Try.sizeOf28 (sized_cons Try.sizeOf28 (sized_cons Try.sizeOf28 sized_nil)))) (fil_scal rfl Try.sizeOf28 rfl rfl (Nat.le_of_ble_eq_true rfl) SetL.eq (fil_scal rfl Try.sizeOf28 rfl rfl (Nat.le_of_ble_eq_true rfl) SetL.eq (fil_scal rfl Try.sizeOf28 rfl rfl (Nat.le_of_ble_eq_true rfl) SetL.eq fil_nil)))) ?_
            refine s_do rfl (d_sliceAgg Try.underlying27 Try.sizeOf30 Try.zeroValue30 rfl (elsK_cons rfl rfl elsK_nil) rfl (by decide) (by decide) (by decide)) ?_
            rintro _ _ ⟨b1, rfl, rfl⟩
            refine s_do rfl (d_append (sz := 4) (by_ := 16) (info := Try.t30) Try.underlying27 (by kernel_rfl) rfl rfl rfl rfl (by decide) rfl rfl cells_all rfl rfl (by simp only [maxLen]; omega) (by omega)) ?_
            rintro _ _ ⟨a3, c3, rfl, rfl⟩
            refine s_val rfl (v_assign rfl) ?_
            refine x_nil ?_
            refine n_then ?_
            refine x_seq ?_
            refine x_region ?_
            refine s_val rfl (v_move rfl) ?_
            refine s_val rfl (v_move rfl) ?_
            refine s_val rfl (v_move rfl) ?_
            refine s_val rfl (v_build Try.underlying30 Try.zeroValue30 (sized_cons Try.sizeOf28 (sized_cons Try.sizeOf28 (sized_cons Try.sizeOf28 (sized_cons Try.sizeOf28 sized_nil)))) (fil_scal rfl Try.sizeOf28 rfl rfl (Nat.le_of_ble_eq_true rfl) SetL.eq (fil_scal rfl Try.sizeOf28 rfl rfl (Nat.le_of_ble_eq_true rfl) SetL.eq fil_nil))) ?_
            refine s_do rfl (d_sliceAgg Try.underlying27 Try.sizeOf30 Try.zeroValue30 rfl (elsK_cons rfl rfl elsK_nil) rfl (by decide) (by decide) (by decide)) ?_
            rintro _ _ ⟨b2, rfl, rfl⟩
            refine s_do rfl (d_append (sz := 4) (by_ := 16) (info := Try.t30) Try.underlying27 (by kernel_rfl) rfl rfl rfl rfl (by decide) rfl rfl cells_all rfl rfl (by simp only [maxLen]; omega) (by omega)) ?_
            rintro _ _ ⟨a4, c4, rfl, rfl⟩
            refine s_val rfl (v_assign rfl) ?_
            refine x_nil ?_
            refine n_then ?_
            refine x_region ?_
            refine s_val rfl (v_move rfl) ?_
            refine s_val rfl (v_move rfl) ?_
            refine s_val rfl (v_conv Try.underlying28 Try.underlying3 rfl (w64 (by omega))) ?_
            refine s_val rfl (v_add rfl rfl (by rw [w64 (by omega)]; omega : IntKind.wrap .i64 (((bkP lens i : Nat) : Int) + ((bkN lens i : Nat) : Int)) = ((bkP lens (i + 1) : Nat) : Int))) ?_
            refine s_val rfl (v_assign rfl) ?_
            refine x_nil ?_
            refine n_block ?_
            refine n_then ?_
            refine x_region ?_
            refine s_val rfl (v_move rfl) ?_
            refine s_val rfl (v_add rfl rfl (by first | exact w64 (by omega) | rfl)) ?_
            refine s_val rfl (v_assign rfl) ?_
            refine x_nil ?_
            refine n_then ?_
            refine inv_intro (i + 1, (a3, c3), a4, c4) ?_ ?_ ?_ ?_
            · omega
            · omega
            · repeat (first | exact sub_nil | refine sub_cons rfl ?_)
            · dsimp only
              rw [bkO_succ, bkO_succ, List.flatMap_append, List.flatMap_append]
              show Ent _ (osl 30 4 (.slice a3 (i + 1) c3) ((bkO ats lens 2 i).flatMap dsV ++ [[.int .u32 ((bkA ats i : Nat) : Int), .int .u32 ((bkN lens i : Nat) : Int), .int .u32 2, .int .u32 0]].flatten) :: osl 30 4 (.slice a4 (i + 1) c4) ((bkO ats lens 0 i).flatMap dsV ++ [[.int .u32 ((bkA ats i : Nat) : Int), .int .u32 ((bkN lens i : Nat) : Int), .int .u32 0, .int .u32 0]].flatten) :: pt pv (viO ps pm dd) :: stoH ps fr :: pt pm (gmO (pg22 0 8)) :: [])
              exact inferInstance
          · intro c12
            have hA : ((64 * (i + 1) : Nat) : Int) = ((bkA ats i : Nat) : Int) := by rw [bkA, if_neg (by omega)]; rfl
            refine x_skip ?_
            refine n_then ?_
            refine x_seq ?_
            rw [hA]
            refine x_region ?_
            refine s_val rfl (v_move rfl) ?_
            refine s_val rfl (v_move rfl) ?_
            refine s_val rfl (v_move rfl) ?_
            refine s_val rfl (v_build Try.underlying30 Try.zeroValue30 (sized_cons Try.sizeOf28 (sized_cons Try.sizeOf28 (sized_cons Try.sizeOf28 (sized_cons Try.sizeOf28 sized_nil)))) (fil_scal rfl Try.sizeOf28 rfl rfl (Nat.le_of_ble_eq_true rfl) SetL.eq (fil_scal rfl Try.sizeOf28 rfl rfl (Nat.le_of_ble_eq_true rfl) SetL.eq (fil_scal rfl Try.sizeOf28 rfl rfl (Nat.le_of_ble_eq_true rfl) SetL.eq fil_nil)))) ?_
            refine s_do rfl (d_sliceAgg Try.underlying27 Try.sizeOf30 Try.zeroValue30 rfl (elsK_cons rfl rfl elsK_nil) rfl (by decide) (by decide) (by decide)) ?_
            rintro _ _ ⟨b3, rfl, rfl⟩
            refine s_do rfl (d_append (sz := 4) (by_ := 16) (info := Try.t30) Try.underlying27 (by kernel_rfl) rfl rfl rfl rfl (by decide) rfl rfl cells_all rfl rfl (by simp only [maxLen]; omega) (by omega)) ?_
            rintro _ _ ⟨a3, c3, rfl, rfl⟩
            refine s_val rfl (v_assign rfl) ?_
            refine x_nil ?_
            refine n_then ?_
            refine x_seq ?_
            refine x_region ?_
            refine s_val rfl (v_move rfl) ?_
            refine s_val rfl (v_move rfl) ?_
            refine s_val rfl (v_move rfl) ?_
            refine s_val rfl (v_build Try.underlying30 Try.zeroValue30 (sized_cons Try.sizeOf28 (sized_cons Try.sizeOf28 (sized_cons Try.sizeOf28 (sized_cons Try.sizeOf28 sized_nil)))) (fil_scal rfl Try.sizeOf28 rfl rfl (Nat.le_of_ble_eq_true rfl) SetL.eq (fil_scal rfl Try.sizeOf28 rfl rfl (Nat.le_of_ble_eq_true rfl) SetL.eq fil_nil))) ?_
            refine s_do rfl (d_sliceAgg Try.underlying27 Try.sizeOf30 Try.zeroValue30 rfl (elsK_cons rfl rfl elsK_nil) rfl (by decide) (by decide) (by decide)) ?_
            rintro _ _ ⟨b4, rfl, rfl⟩
            refine s_do rfl (d_append (sz := 4) (by_ := 16) (info := Try.t30) Try.underlying27 (by kernel_rfl) rfl rfl rfl rfl (by decide) rfl rfl cells_all rfl rfl (by simp only [maxLen]; omega) (by omega)) ?_
            rintro _ _ ⟨a4, c4, rfl, rfl⟩
            refine s_val rfl (v_assign rfl) ?_
            refine x_nil ?_
            refine n_then ?_
            refine x_region ?_
            refine s_val rfl (v_move rfl) ?_
            refine s_val rfl (v_move rfl) ?_
            refine s_val rfl (v_conv Try.underlying28 Try.underlying3 rfl (w64 (by omega))) ?_
            refine s_val rfl (v_add rfl rfl (by rw [w64 (by omega)]; omega : IntKind.wrap .i64 (((bkP lens i : Nat) : Int) + ((bkN lens i : Nat) : Int)) = ((bkP lens (i + 1) : Nat) : Int))) ?_
            refine s_val rfl (v_assign rfl) ?_
            refine x_nil ?_
            refine n_block ?_
            refine n_then ?_
            refine x_region ?_
            refine s_val rfl (v_move rfl) ?_
            refine s_val rfl (v_add rfl rfl (by first | exact w64 (by omega) | rfl)) ?_
            refine s_val rfl (v_assign rfl) ?_
            refine x_nil ?_
            refine n_then ?_
            refine inv_intro (i + 1, (a3, c3), a4, c4) ?_ ?_ ?_ ?_
            · omega
            · omega
            · repeat (first | exact sub_nil | refine sub_cons rfl ?_)
            · dsimp only
              rw [bkO_succ, bkO_succ, List.flatMap_append, List.flatMap_append]
              show Ent _ (osl 30 4 (.slice a3 (i + 1) c3) ((bkO ats lens 2 i).flatMap dsV ++ [[.int .u32 ((bkA ats i : Nat) : Int), .int .u32 ((bkN lens i : Nat) : Int), .int .u32 2, .int .u32 0]].flatten) :: osl 30 4 (.slice a4 (i + 1) c4) ((bkO ats lens 0 i).flatMap dsV ++ [[.int .u32 ((bkA ats i : Nat) : Int), .int .u32 ((bkN lens i : Nat) : Int), .int .u32 0, .int .u32 0]].flatten) :: pt pv (viO ps pm dd) :: stoH ps fr :: pt pm (gmO (pg22 0 8)) :: [])
              exact inferInstance
        · intro c8
          refine x_exit ?_
          refine e_then ?_
          refine e_then ?_
          refine e_block ?_
          refine n_then ?_
          refine x_seq ?_
          have hi7 : i ≤ 7 := by omega
          refine run_form (E := 30) (sz := 4) (a := a1) (c := c1) (n := i) (ys := (bkO ats lens 2 i).flatMap dsV) (fun hf1 => ?_)
          refine run_form (E := 30) (sz := 4) (a := a2) (c := c2) (n := i) (ys := (bkO ats lens 0 i).flatMap dsV) (fun hf2 => ?_)
          obtain ⟨e1, e2, e3⟩ := bk_back (ats := ats) (lens := lens) (bs := bs) (f := f) (d := dd) hb hi7 hF hFl
          obtain ⟨hG, hGl, hGd, _, _⟩ := scK_ok (pg := pg22 0 8) (l := bkO ats lens 2 i) (from_ := (f : Int)) (bs := bs) hF hd i
          refine x_region ?_
          refine s_val rfl (v_move rfl) ?_
          refine s_val rfl (v_conv Try.underlying5 Try.underlying3 rfl (w64 (by omega))) ?_
          refine s_val rfl (v_assign rfl) ?_
          refine x_nil ?_
          refine n_then ?_
          refine x_seq ?_
          refine x_region ?_
          refine s_val rfl (v_move rfl) ?_
          refine s_val rfl (v_move rfl) ?_
          refine s_val rfl (v_move rfl) ?_
          refine s_val rfl (v_move rfl) ?_
          refine s_do rfl (d_call3 Try.call8 rfl (chScatterN W0 _ pv ps pm dd c1 cb i a1 ab fr (pg22 0 8) hP hF hd (bkO ats lens 2 i) (bkO_len _ _ _ _) (sla_cells hf1 (cells_osl (E := 30) (sz := 4) (a := a1) (n := i) (c := c1)) (fun _ => rfl) rfl (by decide)) (bkO_ok ats lens 2 i (by decide) hi7) (by omega) (f : Int) (by omega) bs hb (sla_base hsb) hbl hcb)) ?_
          rintro _ B_ ⟨rfl, hB_⟩
          obtain rfl := hB_.symm
          rw [e1]
          generalize scK fr (pg22 0 8) dd (bkO ats lens 2 i) (f : Int) bs i = sf at e2 e3 hG hGl hGd ⊢
          obtain ⟨x1, x2, fg, dg⟩ := sf
          dsimp only at e2 e3 hG hGl hGd ⊢
          obtain ⟨n, hn⟩ : ∃ n, min bs.length (bkP lens i - f) = n := ⟨_, rfl⟩
          rw [hn]
          have hbp := bkP_le lens i
          refine s_val rfl (v_assign rfl) ?_
          refine x_nil ?_
          refine n_then ?_
          refine x_seq ?_
          refine x_seq ?_
          refine x_region ?_
          refine s_val rfl (v_move rfl) ?_
          refine s_val rfl (v_move rfl) ?_
          refine s_val rfl (v_len_slice Try.underlying22 rfl) ?_
          refine s_val rfl (v_move rfl) ?_
          refine s_val rfl (v_move rfl) ?_
          refine s_val rfl (v_sub rfl rfl (w64 (by omega))) ?_
          refine s_val rfl (v_min rfl rfl (by split <;> omega : (if ((bkP lens i : Nat) : Int) - (f : Int) < (bs.length : Int) then ((bkP lens i : Nat) : Int) - (f : Int) else (bs.length : Int)) = min (bs.length : Int) (((bkP lens i : Nat) : Int) - (f : Int)))) ?_
          refine s_val rfl (v_max rfl rfl (by split <;> omega : (if min (bs.length : Int) (((bkP lens i : Nat) : Int) - (f : Int)) > 0 then min (bs.length : Int) (((bkP lens i : Nat) : Int) - (f : Int)) else 0) = ((n : Nat) : Int))) ?_
          refine s_val rfl (v_neq rfl rfl) ?_
          refine x_nil ?_
          refine n_then ?_
          refine x_if rfl ?_ ?_
          · intro c19
            exact absurd rfl c19
          · intro c19
            refine x_skip ?_
            refine n_then ?_
            refine x_seq ?_
            refine x_region ?_
            refine s_val rfl (v_move rfl) ?_
            refine s_val rfl (v_move rfl) ?_
            refine s_do rfl (d_call3 Try.call9 rfl (chGatherN W0 _ pv ps pm dg c2 i a2 fg (pg22 0 8) hP hG (bkO ats lens 0 i) (bkO_len _ _ _ _) (sla_cells hf2 (cells_osl (E := 30) (sz := 4) (a := a2) (n := i) (c := c2)) (fun _ => rfl) rfl (by decide)) (bkO_ok ats lens 0 i (by decide) hi7) (by omega) 10000 (by decide))) ?_
            rintro _ B_ ⟨a5, c5, rfl, hB_⟩
            obtain rfl := hB_.symm
            generalize gthK fg (pg22 0 8) (bkO ats lens 0 i) 10000 i = G at e2 e3 ⊢
            refine run_form (E := 5) (sz := 1) (a := a5) (c := c5) (n := G.length) (fun hf5 => ?_)
            refine run_cap (E := 5) (sz := 1) (a := a5) (c := c5) (n := G.length) (fun hcap5 => ?_)
            obtain ⟨gb, ob, hcbb, hslb⟩ := base_cells hsb
            refine s_val rfl (v_assign rfl) ?_
            refine x_nil ?_
            refine n_then ?_
            refine x_seq ?_
            refine x_draw [(obk a5, 0, byV G), (gb, ob, byV bs)] 26 mixed rfl (sc_cons (cells_osl (E := 5) (sz := 1) (a := a5) (n := G.length) (c := c5)) (sc_cons (hcbb _) sc_end)) (fun hS => ?_)
            refine d_take 0 rfl rfl (by kernel_rfl) (by kernel_rfl) (by kernel_rfl) rfl hS (v_move rfl) ?_
            refine d_take 1 rfl rfl (by kernel_rfl) (by kernel_rfl) (by kernel_rfl) rfl hS (v_len_slice Try.underlying22 rfl) ?_
            refine d_take 2 rfl rfl (by kernel_rfl) (by kernel_rfl) (by kernel_rfl) rfl hS (v_move rfl) ?_
            refine d_take 3 rfl rfl (by kernel_rfl) (by kernel_rfl) (by kernel_rfl) rfl hS (v_eql rfl rfl) ?_
            refine d_take 4 rfl rfl (by kernel_rfl) (by kernel_rfl) (by kernel_rfl) rfl hS (v_move rfl) ?_
            refine x_split (t := 97) rfl ?_ ?_
            · intro g22_5
              refine d_take 5 rfl rfl (by kernel_rfl) (by kernel_rfl) (by kernel_rfl) rfl hS (v_move rfl) ?_
              refine d_take 6 rfl rfl (by kernel_rfl) (by kernel_rfl) (by kernel_rfl) rfl hS (v_eql rfl rfl) ?_
              refine d_take 7 rfl rfl (by kernel_rfl) (by kernel_rfl) (by kernel_rfl) rfl hS (v_move rfl) ?_
              refine x_split (t := 100) rfl ?_ ?_
              · intro g22_8
                refine d_skip 8 rfl rfl (by kernel_rfl) (by kernel_rfl) (by kernel_rfl) rfl hS ?_
                refine d_skip 9 rfl rfl (by kernel_rfl) (by kernel_rfl) (by kernel_rfl) rfl hS ?_
                refine d_skip 10 rfl rfl (by kernel_rfl) (by kernel_rfl) (by kernel_rfl) rfl hS ?_
                refine d_skip 11 rfl rfl (by kernel_rfl) (by kernel_rfl) (by kernel_rfl) rfl hS ?_
                refine d_skip 12 rfl rfl (by kernel_rfl) (by kernel_rfl) (by kernel_rfl) rfl hS ?_
                refine d_skip 13 rfl rfl (by kernel_rfl) (by kernel_rfl) (by kernel_rfl) rfl hS ?_
                refine d_skip 14 rfl rfl (by kernel_rfl) (by kernel_rfl) (by kernel_rfl) rfl hS ?_
                refine d_skip 15 rfl rfl (by kernel_rfl) (by kernel_rfl) (by kernel_rfl) rfl hS ?_
                refine d_skip 16 rfl rfl (by kernel_rfl) (by kernel_rfl) (by kernel_rfl) rfl hS ?_
                refine d_skip 17 rfl rfl (by kernel_rfl) (by kernel_rfl) (by kernel_rfl) rfl hS ?_
                refine d_skip 18 rfl rfl (by kernel_rfl) (by kernel_rfl) (by kernel_rfl) rfl hS ?_
                refine d_skip 19 rfl rfl (by kernel_rfl) (by kernel_rfl) (by kernel_rfl) rfl hS ?_
                refine d_take 20 rfl rfl (by kernel_rfl) (by kernel_rfl) (by kernel_rfl) rfl hS (v_pick_t rfl rfl) ?_
                refine d_take 21 rfl rfl (by kernel_rfl) (by kernel_rfl) (by kernel_rfl) rfl hS (v_pick_t rfl rfl) ?_
                refine d_take 22 rfl rfl (by kernel_rfl) (by kernel_rfl) (by kernel_rfl) rfl hS (v_move rfl) ?_
                refine d_one 23 (by kernel_rfl) rfl rfl (d_call Try.call10 rfl (awake22_spec W0 _)) rfl ?_; clear hS
                rintro _ B_ ⟨rfl, hB_⟩
                obtain rfl := hB_.symm
                refine ⟨(sc_cons (cells_osl (E := 5) (sz := 1) (a := a5) (n := G.length) (c := c5)) (sc_cons (hcbb _) sc_end)), fun hS => ?_⟩
                refine d_take 24 rfl rfl (by kernel_rfl) (by kernel_rfl) (by kernel_rfl) rfl hS (v_pick_t rfl rfl) ?_
                refine d_take 25 rfl rfl (by kernel_rfl) (by kernel_rfl) (by kernel_rfl) rfl hS (v_assign rfl) ?_
                refine d_done (by kernel_rfl) ?_; clear hS
                refine n_then ?_
                refine x_ret ?_
                refine x_done (.inl rfl) (.cons (r_tmp rfl) .nil) ?_
                exact ⟨_, ⟨rfl, rfl⟩, inferInstance⟩
              · intro g22_8
                refine d_take 8 rfl rfl (by kernel_rfl) (by kernel_rfl) (by kernel_rfl) rfl hS (v_move rfl) ?_
                refine d_take 9 rfl rfl (by kernel_rfl) (by kernel_rfl) (by kernel_rfl) rfl hS (v_move rfl) ?_
                refine d_take 10 rfl rfl (by kernel_rfl) (by kernel_rfl) (by kernel_rfl) rfl hS (v_move rfl) ?_
                refine d_take 11 rfl rfl (by kernel_rfl) (by kernel_rfl) (by kernel_rfl) rfl hS (v_move rfl) ?_
                refine d_take 12 rfl rfl (by kernel_rfl) (by kernel_rfl) (by kernel_rfl) rfl hS (v_add rfl rfl (by rw [w64 (by omega)]; omega : IntKind.wrap .i64 ((f : Int) + (n : Int)) = ((f + n : Nat) : Int))) ?_
                refine d_take 13 rfl rfl (by kernel_rfl) (by kernel_rfl) (by kernel_rfl) rfl hS (v_sliceLHg Try.underlying22 Try.sizeOf5 rfl rfl rfl rfl rfl (by omega) (by omega)) ?_
                refine d_take 14 rfl rfl (by kernel_rfl) (by kernel_rfl) (by kernel_rfl) rfl hS (v_bstrSN (bs := (G.drop f).take n) Try.underlying22 Try.underlying5 Try.underlying9 rfl (by rw [List.length_take, List.length_drop]; omega) (SlA.sub (xs := G) (k := n) (i := f) (f := fun x => [bV x]) (sz := 1) (a := a5) (c := c5) (sla_cells hf5 (cells_sc (k := 0) (l := byV G) rfl) (fun _ => rfl) (byV_fm G).symm (by decide)) (by omega) hcap5.1)) ?_
                refine d_take 15 rfl rfl (by kernel_rfl) (by kernel_rfl) (by kernel_rfl) rfl hS (v_move rfl) ?_
                refine d_take 16 rfl rfl (by kernel_rfl) (by kernel_rfl) (by kernel_rfl) rfl hS (v_move rfl) ?_
                refine d_take 17 rfl rfl (by kernel_rfl) (by kernel_rfl) (by kernel_rfl) rfl hS (v_sliceH Try.underlying22 Try.sizeOf5 rfl rfl rfl (by omega)) ?_
                refine d_take 18 rfl rfl (by kernel_rfl) (by kernel_rfl) (by kernel_rfl) rfl hS (v_bstrSN (bs := bs.take n) Try.underlying22 Try.underlying5 Try.underlying9 rfl (by rw [List.length_take]; omega) (SlA.take (hslb _ (cells_sc (k := 1) rfl)) n)) ?_
                refine d_take 19 rfl rfl (by kernel_rfl) (by kernel_rfl) (by kernel_rfl) rfl hS (v_eql_str rfl rfl) ?_
                refine d_take 20 rfl rfl (by kernel_rfl) (by kernel_rfl) (by kernel_rfl) rfl hS (v_pick_f rfl rfl) ?_
                refine d_take 21 rfl rfl (by kernel_rfl) (by kernel_rfl) (by kernel_rfl) rfl hS (v_pick_t rfl rfl) ?_
                refine d_take 22 rfl rfl (by kernel_rfl) (by kernel_rfl) (by kernel_rfl) rfl hS (v_move rfl) ?_
                refine x_split (t := 115) rfl ?_ ?_
                · intro g22_23
                  refine d_one 23 (by kernel_rfl) rfl rfl (d_call Try.call10 rfl (awake22_spec W0 _)) rfl ?_; clear hS
                  rintro _ B_ ⟨rfl, hB_⟩
                  obtain rfl := hB_.symm
                  refine ⟨(sc_cons (cells_osl (E := 5) (sz := 1) (a := a5) (n := G.length) (c := c5)) (sc_cons (hcbb _) sc_end)), fun hS => ?_⟩
                  refine d_take 24 rfl rfl (by kernel_rfl) (by kernel_rfl) (by kernel_rfl) rfl hS (v_pick_t rfl rfl) ?_
                  refine d_take 25 rfl rfl (by kernel_rfl) (by kernel_rfl) (by kernel_rfl) rfl hS (v_assign rfl) ?_
                  refine d_done (by kernel_rfl) ?_; clear hS
                  refine n_then ?_
                  refine x_ret ?_
                  refine x_done (.inl rfl) (.cons (r_tmp rfl) .nil) ?_
                  exact ⟨_, ⟨rfl, rfl⟩, inferInstance⟩
                · intro g22_23
                  exact absurd (by rw [e3 n hn.symm (by intro h0; rw [h0] at g22_8; exact g22_8 rfl)]; simp) g22_23
            · intro g22_5
              exact absurd (congrArg Int.ofNat e2) g22_5
      · intro g8_5
        refine s_no rfl rfl rfl rfl ?_
        refine s_val rfl (v_pick_f rfl rfl) ?_
        refine x_nil ?_
        refine n_then ?_
        refine x_iff rfl ?_
        refine x_exit ?_
        refine e_then ?_
        refine e_then ?_
        refine e_block ?_
        refine n_then ?_
        refine x_seq ?_
        have hi7 : i ≤ 7 := by omega
        refine run_form (E := 30) (sz := 4) (a := a1) (c := c1) (n := i) (ys := (bkO ats lens 2 i).flatMap dsV) (fun hf1 => ?_)
        refine run_form (E := 30) (sz := 4) (a := a2) (c := c2) (n := i) (ys := (bkO ats lens 0 i).flatMap dsV) (fun hf2 => ?_)
        obtain ⟨e1, e2, e3⟩ := bk_back (ats := ats) (lens := lens) (bs := bs) (f := f) (d := dd) hb hi7 hF hFl
        obtain ⟨hG, hGl, hGd, _, _⟩ := scK_ok (pg := pg22 0 8) (l := bkO ats lens 2 i) (from_ := (f : Int)) (bs := bs) hF hd i
        refine x_region ?_
        refine s_val rfl (v_move rfl) ?_
        refine s_val rfl (v_conv Try.underlying5 Try.underlying3 rfl (w64 (by omega))) ?_
        refine s_val rfl (v_assign rfl) ?_
        refine x_nil ?_
        refine n_then ?_
        refine x_seq ?_
        refine x_region ?_
        refine s_val rfl (v_move rfl) ?_
        refine s_val rfl (v_move rfl) ?_
        refine s_val rfl (v_move rfl) ?_
        refine s_val rfl (v_move rfl) ?_
        refine s_do rfl (d_call3 Try.call8 rfl (chScatterN W0 _ pv ps pm dd c1 cb i a1 ab fr (pg22 0 8) hP hF hd (bkO ats lens 2 i) (bkO_len _ _ _ _) (sla_cells hf1 (cells_osl (E := 30) (sz := 4) (a := a1) (n := i) (c := c1)) (fun _ => rfl) rfl (by decide)) (bkO_ok ats lens 2 i (by decide) hi7) (by omega) (f : Int) (by omega) bs hb (sla_base hsb) hbl hcb)) ?_
        rintro _ B_ ⟨rfl, hB_⟩
        obtain rfl := hB_.symm
        rw [e1]
        generalize scK fr (pg22 0 8) dd (bkO ats lens 2 i) (f : Int) bs i = sf at e2 e3 hG hGl hGd ⊢
        obtain ⟨x1, x2, fg, dg⟩ := sf
        dsimp only at e2 e3 hG hGl hGd ⊢
        obtain ⟨n, hn⟩ : ∃ n, min bs.length (bkP lens i - f) = n := ⟨_, rfl⟩
        rw [hn]
        have hbp := bkP_le lens i
        refine s_val rfl (v_assign rfl) ?_
        refine x_nil ?_
        refine n_then ?_
        refine x_seq ?_
        refine x_seq ?_
        refine x_region ?_
        refine s_val rfl (v_move rfl) ?_
        refine s_val rfl (v_move rfl) ?_
        refine s_val rfl (v_len_slice Try.underlying22 rfl) ?_
        refine s_val rfl (v_move rfl) ?_
        refine s_val rfl (v_move rfl) ?_
        refine s_val rfl (v_sub rfl rfl (w64 (by omega))) ?_
        refine s_val rfl (v_min rfl rfl (by split <;> omega : (if ((bkP lens i : Nat) : Int) - (f : Int) < (bs.length : Int) then ((bkP lens i : Nat) : Int) - (f : Int) else (bs.length : Int)) = min (bs.length : Int) (((bkP lens i : Nat) : Int) - (f : Int)))) ?_
        refine s_val rfl (v_max rfl rfl (by split <;> omega : (if min (bs.length : Int) (((bkP lens i : Nat) : Int) - (f : Int)) > 0 then min (bs.length : Int) (((bkP lens i : Nat) : Int) - (f : Int)) else 0) = ((n : Nat) : Int))) ?_
        refine s_val rfl (v_neq rfl rfl) ?_
        refine x_nil ?_
        refine n_then ?_
        refine x_if rfl ?_ ?_
        · intro c19
          exact absurd rfl c19
        · intro c19
          refine x_skip ?_
          refine n_then ?_
          refine x_seq ?_
          refine x_region ?_
          refine s_val rfl (v_move rfl) ?_
          refine s_val rfl (v_move rfl) ?_
          refine s_do rfl (d_call3 Try.call9 rfl (chGatherN W0 _ pv ps pm dg c2 i a2 fg (pg22 0 8) hP hG (bkO ats lens 0 i) (bkO_len _ _ _ _) (sla_cells hf2 (cells_osl (E := 30) (sz := 4) (a := a2) (n := i) (c := c2)) (fun _ => rfl) rfl (by decide)) (bkO_ok ats lens 0 i (by decide) hi7) (by omega) 10000 (by decide))) ?_
          rintro _ B_ ⟨a5, c5, rfl, hB_⟩
          obtain rfl := hB_.symm
          generalize gthK fg (pg22 0 8) (bkO ats lens 0 i) 10000 i = G at e2 e3 ⊢
          refine run_form (E := 5) (sz := 1) (a := a5) (c := c5) (n := G.length) (fun hf5 => ?_)
          refine run_cap (E := 5) (sz := 1) (a := a5) (c := c5) (n := G.length) (fun hcap5 => ?_)
          obtain ⟨gb, ob, hcbb, hslb⟩ := base_cells hsb
          refine s_val rfl (v_assign rfl) ?_
          refine x_nil ?_
          refine n_then ?_
          refine x_seq ?_
          refine x_draw [(obk a5, 0, byV G), (gb, ob, byV bs)] 26 mixed rfl (sc_cons (cells_osl (E := 5) (sz := 1) (a := a5) (n := G.length) (c := c5)) (sc_cons (hcbb _) sc_end)) (fun hS => ?_)
          refine d_take 0 rfl rfl (by kernel_rfl) (by kernel_rfl) (by kernel_rfl) rfl hS (v_move rfl) ?_
          refine d_take 1 rfl rfl (by kernel_rfl) (by kernel_rfl) (by kernel_rfl) rfl hS (v_len_slice Try.underlying22 rfl) ?_
          refine d_take 2 rfl rfl (by kernel_rfl) (by kernel_rfl) (by kernel_rfl) rfl hS (v_move rfl) ?_
          refine d_take 3 rfl rfl (by kernel_rfl) (by kernel_rfl) (by kernel_rfl) rfl hS (v_eql rfl rfl) ?_
          refine d_take 4 rfl rfl (by kernel_rfl) (by kernel_rfl) (by kernel_rfl) rfl hS (v_move rfl) ?_
          refine x_split (t := 97) rfl ?_ ?_
          · intro g22_5
            refine d_take 5 rfl rfl (by kernel_rfl) (by kernel_rfl) (by kernel_rfl) rfl hS (v_move rfl) ?_
            refine d_take 6 rfl rfl (by kernel_rfl) (by kernel_rfl) (by kernel_rfl) rfl hS (v_eql rfl rfl) ?_
            refine d_take 7 rfl rfl (by kernel_rfl) (by kernel_rfl) (by kernel_rfl) rfl hS (v_move rfl) ?_
            refine x_split (t := 100) rfl ?_ ?_
            · intro g22_8
              refine d_skip 8 rfl rfl (by kernel_rfl) (by kernel_rfl) (by kernel_rfl) rfl hS ?_
              refine d_skip 9 rfl rfl (by kernel_rfl) (by kernel_rfl) (by kernel_rfl) rfl hS ?_
              refine d_skip 10 rfl rfl (by kernel_rfl) (by kernel_rfl) (by kernel_rfl) rfl hS ?_
              refine d_skip 11 rfl rfl (by kernel_rfl) (by kernel_rfl) (by kernel_rfl) rfl hS ?_
              refine d_skip 12 rfl rfl (by kernel_rfl) (by kernel_rfl) (by kernel_rfl) rfl hS ?_
              refine d_skip 13 rfl rfl (by kernel_rfl) (by kernel_rfl) (by kernel_rfl) rfl hS ?_
              refine d_skip 14 rfl rfl (by kernel_rfl) (by kernel_rfl) (by kernel_rfl) rfl hS ?_
              refine d_skip 15 rfl rfl (by kernel_rfl) (by kernel_rfl) (by kernel_rfl) rfl hS ?_
              refine d_skip 16 rfl rfl (by kernel_rfl) (by kernel_rfl) (by kernel_rfl) rfl hS ?_
              refine d_skip 17 rfl rfl (by kernel_rfl) (by kernel_rfl) (by kernel_rfl) rfl hS ?_
              refine d_skip 18 rfl rfl (by kernel_rfl) (by kernel_rfl) (by kernel_rfl) rfl hS ?_
              refine d_skip 19 rfl rfl (by kernel_rfl) (by kernel_rfl) (by kernel_rfl) rfl hS ?_
              refine d_take 20 rfl rfl (by kernel_rfl) (by kernel_rfl) (by kernel_rfl) rfl hS (v_pick_t rfl rfl) ?_
              refine d_take 21 rfl rfl (by kernel_rfl) (by kernel_rfl) (by kernel_rfl) rfl hS (v_pick_t rfl rfl) ?_
              refine d_take 22 rfl rfl (by kernel_rfl) (by kernel_rfl) (by kernel_rfl) rfl hS (v_move rfl) ?_
              refine d_one 23 (by kernel_rfl) rfl rfl (d_call Try.call10 rfl (awake22_spec W0 _)) rfl ?_; clear hS
              rintro _ B_ ⟨rfl, hB_⟩
              obtain rfl := hB_.symm
              refine ⟨(sc_cons (cells_osl (E := 5) (sz := 1) (a := a5) (n := G.length) (c := c5)) (sc_cons (hcbb _) sc_end)), fun hS => ?_⟩
              refine d_take 24 rfl rfl (by kernel_rfl) (by kernel_rfl) (by kernel_rfl) rfl hS (v_pick_t rfl rfl) ?_
              refine d_take 25 rfl rfl (by kernel_rfl) (by kernel_rfl) (by kernel_rfl) rfl hS (v_assign rfl) ?_
              refine d_done (by kernel_rfl) ?_; clear hS
              refine n_then ?_
              refine x_ret ?_
              refine x_done (.inl rfl) (.cons (r_tmp rfl) .nil) ?_
              exact ⟨_, ⟨rfl, rfl⟩, inferInstance⟩
            · intro g22_8
              refine d_take 8 rfl rfl (by kernel_rfl) (by kernel_rfl) (by kernel_rfl) rfl hS (v_move rfl) ?_
              refine d_take 9 rfl rfl (by kernel_rfl) (by kernel_rfl) (by kernel_rfl) rfl hS (v_move rfl) ?_
              refine d_take 10 rfl rfl (by kernel_rfl) (by kernel_rfl) (by kernel_rfl) rfl hS (v_move rfl) ?_
              refine d_take 11 rfl rfl (by kernel_rfl) (by kernel_rfl) (by kernel_rfl) rfl hS (v_move rfl) ?_
              refine d_take 12 rfl rfl (by kernel_rfl) (by kernel_rfl) (by kernel_rfl) rfl hS (v_add rfl rfl (by rw [w64 (by omega)]; omega : IntKind.wrap .i64 ((f : Int) + (n : Int)) = ((f + n : Nat) : Int))) ?_
              refine d_take 13 rfl rfl (by kernel_rfl) (by kernel_rfl) (by kernel_rfl) rfl hS (v_sliceLHg Try.underlying22 Try.sizeOf5 rfl rfl rfl rfl rfl (by omega) (by omega)) ?_
              refine d_take 14 rfl rfl (by kernel_rfl) (by kernel_rfl) (by kernel_rfl) rfl hS (v_bstrSN (bs := (G.drop f).take n) Try.underlying22 Try.underlying5 Try.underlying9 rfl (by rw [List.length_take, List.length_drop]; omega) (SlA.sub (xs := G) (k := n) (i := f) (f := fun x => [bV x]) (sz := 1) (a := a5) (c := c5) (sla_cells hf5 (cells_sc (k := 0) (l := byV G) rfl) (fun _ => rfl) (byV_fm G).symm (by decide)) (by omega) hcap5.1)) ?_
              refine d_take 15 rfl rfl (by kernel_rfl) (by kernel_rfl) (by kernel_rfl) rfl hS (v_move rfl) ?_
              refine d_take 16 rfl rfl (by kernel_rfl) (by kernel_rfl) (by kernel_rfl) rfl hS (v_move rfl) ?_
              refine d_take 17 rfl rfl (by kernel_rfl) (by kernel_rfl) (by kernel_rfl) rfl hS (v_sliceH Try.underlying22 Try.sizeOf5 rfl rfl rfl (by omega)) ?_
              refine d_take 18 rfl rfl (by kernel_rfl) (by kernel_rfl) (by kernel_rfl) rfl hS (v_bstrSN (bs := bs.take n) Try.underlying22 Try.underlying5 Try.underlying9 rfl (by rw [List.length_take]; omega) (SlA.take (hslb _ (cells_sc (k := 1) rfl)) n)) ?_
              refine d_take 19 rfl rfl (by kernel_rfl) (by kernel_rfl) (by kernel_rfl) rfl hS (v_eql_str rfl rfl) ?_
              refine d_take 20 rfl rfl (by kernel_rfl) (by kernel_rfl) (by kernel_rfl) rfl hS (v_pick_f rfl rfl) ?_
              refine d_take 21 rfl rfl (by kernel_rfl) (by kernel_rfl) (by kernel_rfl) rfl hS (v_pick_t rfl rfl) ?_
              refine d_take 22 rfl rfl (by kernel_rfl) (by kernel_rfl) (by kernel_rfl) rfl hS (v_move rfl) ?_
              refine x_split (t := 115) rfl ?_ ?_
              · intro g22_23
                refine d_one 23 (by kernel_rfl) rfl rfl (d_call Try.call10 rfl (awake22_spec W0 _)) rfl ?_; clear hS
                rintro _ B_ ⟨rfl, hB_⟩
                obtain rfl := hB_.symm
                refine ⟨(sc_cons (cells_osl (E := 5) (sz := 1) (a := a5) (n := G.length) (c := c5)) (sc_cons (hcbb _) sc_end)), fun hS => ?_⟩
                refine d_take 24 rfl rfl (by kernel_rfl) (by kernel_rfl) (by kernel_rfl) rfl hS (v_pick_t rfl rfl) ?_
                refine d_take 25 rfl rfl (by kernel_rfl) (by kernel_rfl) (by kernel_rfl) rfl hS (v_assign rfl) ?_
                refine d_done (by kernel_rfl) ?_; clear hS
                refine n_then ?_
                refine x_ret ?_
                refine x_done (.inl rfl) (.cons (r_tmp rfl) .nil) ?_
                exact ⟨_, ⟨rfl, rfl⟩, inferInstance⟩
              · intro g22_23
                exact absurd (by rw [e3 n hn.symm (by intro h0; rw [h0] at g22_8; exact g22_8 rfl)]; simp) g22_23
          · intro g22_5
            exact absurd (congrArg Int.ofNat e2) g22_5
end Go.Proofs.Ytpmacnfjafpdcab
