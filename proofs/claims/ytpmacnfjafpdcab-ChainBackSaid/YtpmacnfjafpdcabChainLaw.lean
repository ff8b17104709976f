/-
  Layer 22 (chain): what the laws stand on.
-/
import Derived.Test.YtpmacnfjafpdcabChainLen
import Derived.Test.YtpmacnfjafpdcabMemLaw
import Derived.Test.YtpmacnfjafpdcabStr
import Derived.Test.YtpmacnfjafpdcabLawB
namespace Go.Proofs.Ytpmacnfjafpdcab
open Go.RowKit
set_option linter.unusedSimpArgs false
set_option linter.unusedVariables false
set_option maxRecDepth 20000

theorem viWriteN_spec (W0 : World) (R : List HP) (pv ps pm d c n : Nat) (a : Option Addr) (fr : List Frm) (pg : List Pl) (h : Pgs pg) (hF : Frs fr) (hd : d < 4096) (pa : Nat) (hpa : pa < 4294967296) (bs : List Nat) (hn : bs.length = n) (hb : By bs) (hs : SlA (OwnP W0 R) a 1 (fun x => [bV x]) bs) (hlen : n < 9223372036854775808) :
    Spec Try.prog W0 29 [.pointer (some ⟨pv, 0, none⟩), .int .u32 pa, .slice a n c] (pt pv (viO ps pm d) :: stoH ps fr :: pt pm (gmO pg) :: R)
      (fun v B => v = .bool (ownB fr.length pg pa n) ∧ B = pt pv (viO ps pm (wrE fr pg pa d n)) :: stoH ps (wrF fr pg pa bs) :: pt pm (gmO pg) :: R) := by
  subst hn; exact viWrite_spec W0 R pv ps pm d c a fr pg h hF hd pa hpa bs hb hs hlen
theorem rvWriteN_spec (W0 : World) (R : List HP) (qv qs qm d c n : Nat) (a : Option Addr) (fr : List Frm) (pg : List Pl) (h : Pgs pg) (hF : Frs fr) (pa : Nat) (hpa : pa < 4294967296) (bs : List Nat) (hn : bs.length = n) (hb : By bs) (hs : SlA (OwnP W0 R) a 1 (fun x => [bV x]) bs) (hlen : n < 9223372036854775808) :
    Spec Try.prog W0 30 [.pointer (some ⟨qv, 0, none⟩), .int .u32 pa, .slice a n c] (pt qv (rvO qs qm d) :: rstoH qs fr :: pt qm (rgO pg) :: R)
      (fun v B => v = .bool (ownB fr.length pg pa n) ∧ B = pt qv (rvO qs qm (wrE fr pg pa d n)) :: rstoH qs (wrF fr pg pa bs) :: pt qm (rgO pg) :: R) := by
  subst hn; exact rvWrite_spec W0 R qv qs qm d c a fr pg h hF pa hpa bs hb hs hlen

def pg22 (gone : Nat) : Nat → List Pl
  | 0 => List.replicate 12 (0, 0)
  | i + 1 => if gone / 2 ^ i % 2 = 0 then setP (pg22 gone i) i (((8 - i : Nat) : Int), 3) else pg22 gone i
theorem pgz : Pgs (List.replicate 12 (0, 0)) := ⟨rfl, fun n hn hne => absurd (by
  unfold plAt; rw [List.getD_eq_getElem?_getD, List.getElem?_replicate]; split <;> rfl) hne⟩
theorem pg22_ok (gone : Nat) : ∀ i, Pgs (pg22 gone i)
  | 0 => pgz
  | i + 1 => by
    rw [pg22]; split
    · exact setP_ok (pg22_ok gone i)
    · exact pg22_ok gone i
structure Pt22 where
  pa : Nat
  a : Option Addr
  bs : List Nat
  c : Nat
@[reducible] def pt22V (t : Pt22) : List Value := [.int .u32 t.pa, .slice t.a t.bs.length t.c]
structure Pt22Ok (S : World → Prop) (t : Pt22) : Prop where
  pa : t.pa < 4294967296
  by_ : By t.bs
  len : t.bs.length < 9223372036854775808
  sl : SlA S t.a 1 (fun x => [bV x]) t.bs
/-- Frames and notes behind descriptors, then bytes. -/
def mkA (pg : List Pl) (ds : List Dsc) : Nat → List Frm × Nat
  | 0 => (List.replicate 9 zeros, 0)
  | i + 1 => (wrF (mkA pg ds i).1 pg (16 * i) (putD (ds.getD i zD)), wrE (mkA pg ds i).1 pg (16 * i) (mkA pg ds i).2 16)
def mkB (pg : List Pl) (s : List Frm × Nat) (ts : List Pt22) : Nat → List Frm × Nat
  | 0 => s
  | i + 1 => let t := ts.getD i ⟨0, none, [], 0⟩; (wrF (mkB pg s ts i).1 pg t.pa t.bs, wrE (mkB pg s ts i).1 pg t.pa (mkB pg s ts i).2 t.bs.length)
theorem mkA_ok (pg : List Pl) (ds : List Dsc) : ∀ i, Frs (mkA pg ds i).1 ∧ (mkA pg ds i).1.length = 9 ∧ (mkA pg ds i).2 < 4096
  | 0 => ⟨Frs.new 9, by simp [mkA], by simp [mkA]⟩
  | i + 1 => by
    obtain ⟨h1, h2, h3⟩ := mkA_ok pg ds i
    exact ⟨(wrF_ok h1).1, (wrF_ok h1).2.trans h2, wrE_lt h3⟩
theorem mkB_ok (pg : List Pl) (s : List Frm × Nat) (ts : List Pt22) (hs : Frs s.1 ∧ s.1.length = 9 ∧ s.2 < 4096) : ∀ i, Frs (mkB pg s ts i).1 ∧ (mkB pg s ts i).1.length = 9 ∧ (mkB pg s ts i).2 < 4096
  | 0 => hs
  | i + 1 => by
    obtain ⟨h1, h2, h3⟩ := mkB_ok pg s ts hs i
    exact ⟨(wrF_ok h1).1, (wrF_ok h1).2.trans h2, wrE_lt h3⟩
def mk22 (gone : Nat) (ds : List Dsc) (ts : List Pt22) : List Frm × Nat := mkB (pg22 gone 8) (mkA (pg22 gone 8) ds (min ds.length 8)) ts (min ts.length 20)
theorem mk22_ok (gone : Nat) (ds : List Dsc) (ts : List Pt22) : Frs (mk22 gone ds ts).1 ∧ (mk22 gone ds ts).1.length = 9 ∧ (mk22 gone ds ts).2 < 4096 := mkB_ok _ _ _ (mkA_ok _ _ _) _

theorem made22_spec (W0 : World) (R : List HP) (gone : Nat) (hg : gone < 256) (al ap : Option Addr) (cl cp : Nat) (ds : List Dsc) (ts : List Pt22) (hds : SlA (OwnP W0 R) al 4 dsV ds) (hok : ∀ d ∈ ds, d.ok) (hl : ds.length < 9223372036854775808) (hts : SlA (OwnP W0 R) ap 2 pt22V ts) (htok : ∀ t ∈ ts, Pt22Ok (OwnP W0 R) t) (hl2 : ts.length < 9223372036854775808) :
    Spec Try.prog W0 7 [.int .u8 gone, .slice al ds.length cl, .slice ap ts.length cp] R
      (fun v B => ∃ pv ps pm qv qs qm, v = .tuple #[.pointer (some ⟨pv, 0, none⟩), .pointer (some ⟨qv, 0, none⟩)] ∧ B = prH pv ps pm qv qs qm (mk22 gone ds ts).2 (mk22 gone ds ts).1 (pg22 gone 8) R) := by
  refine spec_body Try.func7 Try.ntmps7 rfl rfl ?_
  refine x_seq ?_
  refine x_region ?_
  refine s_val rfl (v_assign rfl) ?_
  refine s_val rfl (v_assign rfl) ?_
  refine x_nil ?_
  refine n_then ?_
  refine x_seq ?_
  refine x_region ?_
  refine s_do rfl (d_call Try.call22 rfl (frNew_spec W0 _ 9 (by decide))) ?_
  rintro _ B_ ⟨ps, rfl, hB_⟩
  obtain rfl := hB_.symm
  refine s_val rfl (v_move rfl) ?_
  refine s_val rfl (v_extract rfl rfl) ?_
  refine s_val rfl (v_extract rfl rfl) ?_
  refine s_val rfl (v_assign rfl) ?_
  refine s_val rfl (v_assign rfl) ?_
  refine x_nil ?_
  refine n_then ?_
  refine x_seq ?_
  refine x_region ?_
  refine s_do rfl (d_call Try.call23 rfl (gmNew_spec W0 _)) ?_
  rintro _ B_ ⟨pm, rfl, hB_⟩
  obtain rfl := hB_.symm
  refine s_val rfl (v_assign rfl) ?_
  refine x_nil ?_
  refine n_then ?_
  refine x_seq ?_
  refine x_region ?_
  refine s_do rfl (d_call Try.call24 rfl (rfNew_spec W0 _ 9 (by decide))) ?_
  rintro _ B_ ⟨qs, rfl, hB_⟩
  obtain rfl := hB_.symm
  refine s_val rfl (v_move rfl) ?_
  refine s_val rfl (v_extract rfl rfl) ?_
  refine s_val rfl (v_extract rfl rfl) ?_
  refine s_val rfl (v_assign rfl) ?_
  refine s_val rfl (v_assign rfl) ?_
  refine x_nil ?_
  refine n_then ?_
  refine x_seq ?_
  refine x_region ?_
  refine s_val rfl (v_build Try.underlying82 Try.zeroValue82 (sized_cons Try.sizeOf68 (sized_cons Try.sizeOf80 sized_nil)) fil_nil) ?_
  refine s_do rfl (d_boxA rfl) ?_
  rintro _ _ ⟨qm, rfl, rfl⟩
  refine s_val rfl (v_assign rfl) ?_
  refine x_nil ?_
  refine n_then ?_
  refine x_seq ?_
  refine x_seq ?_
  refine run_pt (b := qm) (o' := rgO (List.replicate 12 (0, 0))) rfl ?_
  refine x_region ?_
  refine s_val rfl (v_assign rfl) ?_
  refine x_nil ?_
  refine n_then ?_
  refine x_block ?_
  refine x_loop (fun i : Nat => i ≤ 8) (fun i => [(0, .int .u8 gone), (1, .slice al ds.length cl), (2, .slice ap ts.length cp), (8, .pointer (some ⟨ps, 0, none⟩)), (10, .pointer (some ⟨pm, 0, none⟩)), (11, .pointer (some ⟨qs, 0, none⟩)), (13, .pointer (some ⟨qm, 0, none⟩)), (14, .int .i64 i)]) (fun i => pt qm (rgO (pg22 gone i)) :: rstoH qs (List.replicate 9 zeros) :: pt pm (gmO (pg22 gone i)) :: stoH ps (List.replicate 9 zeros) :: R) (fun i => 8 - i) 0 ?_ ?_ ?_ ?_
  · exact Nat.zero_le _
  · repeat (first | exact sub_nil | refine sub_cons rfl ?_)
  · simp only [pg22]; exact inferInstance
  · intro i hi
    have hP := pg22_ok gone i
    refine x_seq ?_
    refine x_seq ?_
    refine x_region ?_
    refine s_val rfl (v_move rfl) ?_
    refine s_val rfl (v_lss rfl rfl) ?_
    refine x_nil ?_
    refine n_then ?_
    refine x_if rfl ?_ ?_
    · intro c6
      refine x_skip ?_
      refine n_then ?_
      refine x_seq ?_
      refine x_block ?_
      refine x_seq ?_
      refine x_region ?_
      refine s_val rfl (v_move rfl) ?_
      refine s_val rfl (v_move rfl) ?_
      refine s_val rfl (v_shr rfl rfl (by omega) (bShr_nat (by simp [IntKind.bits]; omega))) ?_
      refine s_val rfl (v_and rfl rfl (and1_u8 (Nat.lt_of_le_of_lt (Nat.div_le_self _ _) hg))) ?_
      refine s_val rfl (v_eql rfl rfl) ?_
      refine x_nil ?_
      refine n_then ?_
      refine x_if rfl ?_ ?_
      · intro c8
        have hs : pg22 gone (i + 1) = setP (pg22 gone i) i (((8 - i : Nat) : Int), 3) := by rw [pg22, if_pos (by omega)]
        refine x_seq ?_
        refine x_region ?_
        refine s_val rfl (v_move rfl) ?_
        refine s_val rfl (v_move rfl) ?_
        refine s_val rfl (v_move rfl) ?_
        refine s_val rfl (v_sub rfl rfl (by rw [w64 (by omega)]; omega : IntKind.wrap .i64 (8 - (i : Int)) = ((8 - i : Nat) : Int))) ?_
        refine s_val rfl (v_build Try.underlying79 Try.zeroValue79 (sized_cons Try.sizeOf3 (sized_cons Try.sizeOf3 sized_nil)) (fil_scal rfl Try.sizeOf3 rfl rfl (Nat.le_of_ble_eq_true rfl) SetL.eq (fil_scal rfl Try.sizeOf3 rfl rfl (Nat.le_of_ble_eq_true rfl) SetL.eq fil_nil))) ?_
        refine s_do rfl (d_call1 Try.call25 rfl (gmSet_spec W0 _ pm _ hP i (((8 - i : Nat) : Int), 3))) ?_
        rintro _ B_ ⟨rfl, hB_⟩
        obtain rfl := hB_.symm
        refine x_nil ?_
        refine n_then ?_
        refine x_region ?_
        refine s_val rfl (v_move rfl) ?_
        refine s_val rfl (v_move rfl) ?_
        refine s_val rfl (v_move rfl) ?_
        refine s_val rfl (v_sub rfl rfl (by rw [w64 (by omega)]; omega : IntKind.wrap .i64 (8 - (i : Int)) = ((8 - i : Nat) : Int))) ?_
        refine s_val rfl (v_build Try.underlying79 Try.zeroValue79 (sized_cons Try.sizeOf3 (sized_cons Try.sizeOf3 sized_nil)) (fil_scal rfl Try.sizeOf3 rfl rfl (Nat.le_of_ble_eq_true rfl) SetL.eq (fil_scal rfl Try.sizeOf3 rfl rfl (Nat.le_of_ble_eq_true rfl) SetL.eq fil_nil))) ?_
        refine s_do rfl (d_call1 Try.call26 rfl (rgSet_spec W0 _ qm _ hP i (((8 - i : Nat) : Int), 3))) ?_
        rintro _ B_ ⟨rfl, hB_⟩
        obtain rfl := hB_.symm
        refine x_nil ?_
        refine n_block ?_
        refine n_then ?_
        refine x_region ?_
        refine s_val rfl (v_move rfl) ?_
        refine s_val rfl (v_add rfl rfl (by first | exact w64 (by omega) | rfl)) ?_
        refine s_val rfl (v_assign rfl) ?_
        refine x_nil ?_
        refine n_then ?_
        refine inv_intro (i + 1) ?_ ?_ ?_ ?_
        · omega
        · omega
        · repeat (first | exact sub_nil | refine sub_cons rfl ?_)
        · rw [hs]; exact inferInstance
      · intro c8
        have hs : pg22 gone (i + 1) = pg22 gone i := by rw [pg22, if_neg (by omega)]
        refine x_skip ?_
        refine n_block ?_
        refine n_then ?_
        refine x_region ?_
        refine s_val rfl (v_move rfl) ?_
        refine s_val rfl (v_add rfl rfl (by first | exact w64 (by omega) | rfl)) ?_
        refine s_val rfl (v_assign rfl) ?_
        refine x_nil ?_
        refine n_then ?_
        refine inv_intro (i + 1) ?_ ?_ ?_ ?_
        · omega
        · omega
        · repeat (first | exact sub_nil | refine sub_cons rfl ?_)
        · rw [hs]; exact inferInstance
    · intro c6
      refine x_exit ?_
      refine e_then ?_
      refine e_then ?_
      refine e_block ?_
      refine n_then ?_
      refine x_seq ?_
      obtain rfl : i = 8 := by omega
      have hP := pg22_ok gone 8
      obtain ⟨pg, hpg⟩ : ∃ x, pg22 gone 8 = x := ⟨_, rfl⟩
      rw [hpg] at hP ⊢
      refine x_region ?_
      refine s_val rfl (v_move rfl) ?_
      refine s_val rfl (v_move rfl) ?_
      refine s_do rfl (d_call2 Try.call27 rfl (viNew_spec W0 _ ps pm _ _ hP (by decide))) ?_
      rintro _ B_ ⟨pv, rfl, hB_⟩
      obtain rfl := hB_.symm
      refine s_val rfl (v_move rfl) ?_
      refine s_val rfl (v_extract rfl rfl) ?_
      refine s_val rfl (v_extract rfl rfl) ?_
      refine s_val rfl (v_assign rfl) ?_
      refine s_val rfl (v_assign rfl) ?_
      refine x_nil ?_
      refine n_then ?_
      refine x_seq ?_
      refine x_seq ?_
      refine x_region ?_
      refine s_val rfl (v_move rfl) ?_
      refine s_val rfl (v_neq rfl rfl) ?_
      refine x_nil ?_
      refine n_then ?_
      refine x_if rfl ?_ ?_
      · intro c12
        exact absurd rfl c12
      · intro c12
        refine x_skip ?_
        refine n_then ?_
        refine x_seq ?_
        refine x_region ?_
        refine s_val rfl (v_move rfl) ?_
        refine s_val rfl (v_move rfl) ?_
        refine s_val rfl (v_build Try.underlying70 Try.zeroValue70 (sized_cons Try.sizeOf66 (sized_cons Try.sizeOf67 (sized_cons Try.sizeOf68 sized_nil))) (fil_scal rfl Try.sizeOf66 rfl rfl (Nat.le_of_ble_eq_true rfl) SetL.eq (fil_scal rfl Try.sizeOf67 rfl rfl (Nat.le_of_ble_eq_true rfl) SetL.eq fil_nil))) ?_
        refine s_do rfl (d_boxA rfl) ?_
        rintro _ _ ⟨qv, rfl, rfl⟩
        refine s_val rfl (v_assign rfl) ?_
        refine x_nil ?_
        refine n_then ?_
        refine x_seq ?_
        refine x_seq ?_
        refine run_pt (b := qv) (o' := rvO qs qm 0) rfl ?_
        refine x_region ?_
        refine s_val rfl (v_assign rfl) ?_
        refine x_nil ?_
        refine n_then ?_
        refine x_block ?_
        refine x_loop (fun i : Nat => i ≤ min ds.length 8) (fun i => [(1, .slice al ds.length cl), (2, .slice ap ts.length cp), (15, .pointer (some ⟨pv, 0, none⟩)), (17, .pointer (some ⟨qv, 0, none⟩)), (18, .int .i64 i)]) (fun i => prH pv ps pm qv qs qm (mkA pg ds i).2 (mkA pg ds i).1 pg R) (fun i => 8 - i) 0 ?_ ?_ ?_ ?_
        · exact Nat.zero_le _
        · repeat (first | exact sub_nil | refine sub_cons rfl ?_)
        · simp only [mkA]; exact inferInstance
        · intro i hi
          obtain ⟨hF, hFl, hFd⟩ := mkA_ok pg ds i
          refine x_seq ?_
          refine x_seq ?_
          refine x_region ?_
          refine s_val rfl (v_move rfl) ?_
          refine s_val rfl (v_move rfl) ?_
          refine s_val rfl (v_len_slice Try.underlying27 rfl) ?_
          refine s_val rfl (v_lss rfl rfl) ?_
          refine s_val rfl (v_move rfl) ?_
          refine s_and rfl rfl rfl ?_ ?_
          · intro g16_5
            refine s_val rfl (v_move rfl) ?_
            refine s_yes rfl rfl ?_
            refine s_val rfl (v_lss rfl rfl) ?_
            refine s_val rfl (v_pick_t rfl rfl) ?_
            refine x_nil ?_
            refine n_then ?_
            refine x_if rfl ?_ ?_
            · intro c16
              refine x_skip ?_
              refine n_then ?_
              refine x_seq ?_
              refine x_block ?_
              refine x_seq ?_
              have hi1 : i < ds.length := by omega
              obtain ⟨g, o, rfl, hc⟩ := hds.at_ hi1
              have hdi := hok _ (List.getElem_mem hi1)
              have hgd : ds.getD i zD = ds[i] := by simp [List.getD, hi1]
              refine x_region ?_
              refine s_val rfl (v_move rfl) ?_
              refine s_val rfl (v_move rfl) ?_
              refine s_val rfl (v_idx Try.underlying27 Try.sizeOf30 rfl rfl rfl hi1 (by first | exact Nat.zero_add _ | rfl)) ?_
              refine s_val rfl (v_loadAgg Try.isAgg30 Try.sizeOf30 rfl hc.weak rfl) ?_
              refine s_do rfl (d_call Try.call28 rfl (dsPut_spec W0 _ ds[i] hdi)) ?_
              rintro _ B_ ⟨a', c', rfl, hB_⟩
              obtain rfl := hB_.symm
              refine run_form (E := 5) (sz := 1) (a := a') (c := c') (n := 16) (fun hf => ?_)
              refine s_val rfl (v_assign rfl) ?_
              refine x_nil ?_
              refine n_then ?_
              refine x_seq ?_
              refine x_region ?_
              refine s_val rfl (v_move rfl) ?_
              refine s_val rfl (v_move rfl) ?_
              refine s_val rfl (v_mul rfl rfl (by rw [w64 (by omega)]; omega : IntKind.wrap .i64 (16 * (i : Int)) = ((16 * i : Nat) : Int))) ?_
              refine s_val rfl (v_conv Try.underlying3 Try.underlying28 rfl (w32u (by omega))) ?_
              refine s_val rfl (v_move rfl) ?_
              refine s_do rfl (d_call3 Try.call29 rfl (viWriteN_spec W0 _ pv ps pm _ c' 16 a' _ pg hP hF hFd (16 * i) (by omega) (putD ds[i]) (putD_len _) (bytesL_by _) (sla_cells hf (cells_osl (E := 5) (sz := 1) (a := a') (c := c') (n := 16)) (fun _ => rfl) (byV_fm _).symm (by decide)) (by decide))) ?_
              rintro _ B_ ⟨rfl, hB_⟩
              obtain rfl := hB_.symm
              refine x_nil ?_
              refine n_then ?_
              refine x_region ?_
              refine s_val rfl (v_move rfl) ?_
              refine s_val rfl (v_move rfl) ?_
              refine s_val rfl (v_mul rfl rfl (by rw [w64 (by omega)]; omega : IntKind.wrap .i64 (16 * (i : Int)) = ((16 * i : Nat) : Int))) ?_
              refine s_val rfl (v_conv Try.underlying3 Try.underlying28 rfl (w32u (by omega))) ?_
              refine s_val rfl (v_move rfl) ?_
              refine s_do rfl (d_call3 Try.call30 rfl (rvWriteN_spec W0 _ qv qs qm _ c' 16 a' _ pg hP hF (16 * i) (by omega) (putD ds[i]) (putD_len _) (bytesL_by _) (sla_cells hf (cells_osl (E := 5) (sz := 1) (a := a') (c := c') (n := 16)) (fun _ => rfl) (byV_fm _).symm (by decide)) (by decide))) ?_
              rintro _ B_ ⟨rfl, hB_⟩
              obtain rfl := hB_.symm
              refine x_nil ?_
              refine n_block ?_
              refine n_then ?_
              refine x_region ?_
              refine s_val rfl (v_move rfl) ?_
              refine s_val rfl (v_add rfl rfl (by first | exact w64 (by omega) | rfl)) ?_
              refine s_val rfl (v_assign rfl) ?_
              refine x_nil ?_
              refine n_then ?_
              refine inv_intro (i + 1) ?_ ?_ ?_ ?_
              · omega
              · omega
              · repeat (first | exact sub_nil | refine sub_cons rfl ?_)
              · simp only [mkA, hgd]; exact inferInstance
            · intro c16
              refine x_exit ?_
              refine e_then ?_
              refine e_then ?_
              refine e_block ?_
              refine n_then ?_
              refine x_seq ?_
              refine x_seq ?_
              have e1 : i = min ds.length 8 := by omega
              obtain ⟨st, hst⟩ : ∃ x, mkA pg ds i = x := ⟨_, rfl⟩
              rw [hst] at hF hFl hFd ⊢
              have hmk : mk22 gone ds ts = mkB pg st ts (min ts.length 20) := by rw [mk22, hpg, ← e1, hst]
              clear e1
              refine x_region ?_
              refine s_val rfl (v_assign rfl) ?_
              refine x_nil ?_
              refine n_then ?_
              refine x_block ?_
              refine x_loop (fun i : Nat => i ≤ min ts.length 20) (fun i => [(2, .slice ap ts.length cp), (15, .pointer (some ⟨pv, 0, none⟩)), (17, .pointer (some ⟨qv, 0, none⟩)), (20, .int .i64 i)]) (fun i => prH pv ps pm qv qs qm (mkB pg st ts i).2 (mkB pg st ts i).1 pg R) (fun i => 20 - i) 0 ?_ ?_ ?_ ?_
              · exact Nat.zero_le _
              · repeat (first | exact sub_nil | refine sub_cons rfl ?_)
              · simp only [mkB]; exact inferInstance
              · intro j hj
                obtain ⟨hG, hGl, hGd⟩ := mkB_ok pg st ts ⟨hF, hFl, hFd⟩ j
                refine x_seq ?_
                refine x_seq ?_
                refine x_region ?_
                refine s_val rfl (v_move rfl) ?_
                refine s_val rfl (v_move rfl) ?_
                refine s_val rfl (v_len_slice Try.underlying55 rfl) ?_
                refine s_val rfl (v_lss rfl rfl) ?_
                refine s_val rfl (v_move rfl) ?_
                refine s_and rfl rfl rfl ?_ ?_
                · intro g22_5
                  refine s_val rfl (v_move rfl) ?_
                  refine s_yes rfl rfl ?_
                  refine s_val rfl (v_lss rfl rfl) ?_
                  refine s_val rfl (v_pick_t rfl rfl) ?_
                  refine x_nil ?_
                  refine n_then ?_
                  refine x_if rfl ?_ ?_
                  · intro c22
                    refine x_skip ?_
                    refine n_then ?_
                    refine x_seq ?_
                    refine x_block ?_
                    refine x_seq ?_
                    have hj1 : j < ts.length := by omega
                    obtain ⟨gp, op, rfl, hcp⟩ := hts.at_ hj1
                    have ht := htok _ (List.getElem_mem hj1)
                    have hgt : ts.getD j ⟨0, none, [], 0⟩ = ts[j] := by simp [List.getD, hj1]
                    have hpa := ht.pa
                    refine x_draw [(gp, op + j * 2, pt22V ts[j])] 12 mixed rfl (sc_cons hcp.weak sc_end) (fun hS => ?_)
                    refine d_take 0 rfl rfl (by kernel_rfl) (by kernel_rfl) (by kernel_rfl) rfl hS (v_move rfl) ?_
                    refine d_take 1 rfl rfl (by kernel_rfl) (by kernel_rfl) (by kernel_rfl) rfl hS (v_move rfl) ?_
                    refine d_take 2 rfl rfl (by kernel_rfl) (by kernel_rfl) (by kernel_rfl) rfl hS (v_move rfl) ?_
                    refine d_take 3 rfl rfl (by kernel_rfl) (by kernel_rfl) (by kernel_rfl) rfl hS (v_idx Try.underlying55 Try.sizeOf90 rfl rfl rfl hj1 (by first | exact Nat.zero_add _ | rfl)) ?_
                    refine d_take 4 rfl rfl (by kernel_rfl) (by kernel_rfl) (by kernel_rfl) rfl hS (v_fieldAddr rfl Try.underlying90 rfl Try.sizeOf28 rfl (by first | exact Nat.zero_add _ | rfl)) ?_
                    refine d_take 5 rfl rfl (by kernel_rfl) (by kernel_rfl) (by kernel_rfl) rfl hS (v_load Try.isAgg28 rfl (cell_sc (k := 0) (j := 0) rfl rfl)) ?_
                    refine d_take 6 rfl rfl (by kernel_rfl) (by kernel_rfl) (by kernel_rfl) rfl hS (v_move rfl) ?_
                    refine d_take 7 rfl rfl (by kernel_rfl) (by kernel_rfl) (by kernel_rfl) rfl hS (v_move rfl) ?_
                    refine d_take 8 rfl rfl (by kernel_rfl) (by kernel_rfl) (by kernel_rfl) rfl hS (v_idx Try.underlying55 Try.sizeOf90 rfl rfl rfl hj1 (by first | exact Nat.zero_add _ | rfl)) ?_
                    refine d_take 9 rfl rfl (by kernel_rfl) (by kernel_rfl) (by kernel_rfl) rfl hS (v_fieldAddr rfl Try.underlying90 rfl Try.sizeOf22 rfl (by first | exact Nat.zero_add _ | rfl)) ?_
                    refine d_take 10 rfl rfl (by kernel_rfl) (by kernel_rfl) (by kernel_rfl) rfl hS (v_load Try.isAgg22 rfl (cell_sc (k := 0) (j := 1) rfl rfl)) ?_
                    refine d_one 11 (by kernel_rfl) rfl rfl (d_call3 Try.call29 rfl (viWrite_spec W0 _ pv ps pm _ _ ts[j].a _ pg hP hG hGd ts[j].pa hpa ts[j].bs ht.by_ (SlA.weak ht.sl) ht.len)) rfl ?_; clear hS
                    rintro _ B_ ⟨rfl, hB_⟩
                    obtain rfl := hB_.symm
                    refine ⟨(sc_cons hcp.weak sc_end), fun hS => ?_⟩
                    refine d_done (by kernel_rfl) ?_; clear hS
                    refine n_then ?_
                    refine x_draw [(gp, op + j * 2, pt22V ts[j])] 12 mixed rfl (sc_cons hcp.weak sc_end) (fun hS => ?_)
                    refine d_take 0 rfl rfl (by kernel_rfl) (by kernel_rfl) (by kernel_rfl) rfl hS (v_move rfl) ?_
                    refine d_take 1 rfl rfl (by kernel_rfl) (by kernel_rfl) (by kernel_rfl) rfl hS (v_move rfl) ?_
                    refine d_take 2 rfl rfl (by kernel_rfl) (by kernel_rfl) (by kernel_rfl) rfl hS (v_move rfl) ?_
                    refine d_take 3 rfl rfl (by kernel_rfl) (by kernel_rfl) (by kernel_rfl) rfl hS (v_idx Try.underlying55 Try.sizeOf90 rfl rfl rfl hj1 (by first | exact Nat.zero_add _ | rfl)) ?_
                    refine d_take 4 rfl rfl (by kernel_rfl) (by kernel_rfl) (by kernel_rfl) rfl hS (v_fieldAddr rfl Try.underlying90 rfl Try.sizeOf28 rfl (by first | exact Nat.zero_add _ | rfl)) ?_
                    refine d_take 5 rfl rfl (by kernel_rfl) (by kernel_rfl) (by kernel_rfl) rfl hS (v_load Try.isAgg28 rfl (cell_sc (k := 0) (j := 0) rfl rfl)) ?_
                    refine d_take 6 rfl rfl (by kernel_rfl) (by kernel_rfl) (by kernel_rfl) rfl hS (v_move rfl) ?_
                    refine d_take 7 rfl rfl (by kernel_rfl) (by kernel_rfl) (by kernel_rfl) rfl hS (v_move rfl) ?_
                    refine d_take 8 rfl rfl (by kernel_rfl) (by kernel_rfl) (by kernel_rfl) rfl hS (v_idx Try.underlying55 Try.sizeOf90 rfl rfl rfl hj1 (by first | exact Nat.zero_add _ | rfl)) ?_
                    refine d_take 9 rfl rfl (by kernel_rfl) (by kernel_rfl) (by kernel_rfl) rfl hS (v_fieldAddr rfl Try.underlying90 rfl Try.sizeOf22 rfl (by first | exact Nat.zero_add _ | rfl)) ?_
                    refine d_take 10 rfl rfl (by kernel_rfl) (by kernel_rfl) (by kernel_rfl) rfl hS (v_load Try.isAgg22 rfl (cell_sc (k := 0) (j := 1) rfl rfl)) ?_
                    refine d_one 11 (by kernel_rfl) rfl rfl (d_call3 Try.call30 rfl (rvWrite_spec W0 _ qv qs qm _ _ ts[j].a _ pg hP hG ts[j].pa hpa ts[j].bs ht.by_ (SlA.weak ht.sl) ht.len)) rfl ?_; clear hS
                    rintro _ B_ ⟨rfl, hB_⟩
                    obtain rfl := hB_.symm
                    refine ⟨(sc_cons hcp.weak sc_end), fun hS => ?_⟩
                    refine d_done (by kernel_rfl) ?_; clear hS
                    refine n_block ?_
                    refine n_then ?_
                    refine x_region ?_
                    refine s_val rfl (v_move rfl) ?_
                    refine s_val rfl (v_add rfl rfl (by first | exact w64 (by omega) | rfl)) ?_
                    refine s_val rfl (v_assign rfl) ?_
                    refine x_nil ?_
                    refine n_then ?_
                    refine inv_intro (j + 1) ?_ ?_ ?_ ?_
                    · omega
                    · omega
                    · repeat (first | exact sub_nil | refine sub_cons rfl ?_)
                    · simp only [mkB, hgt]; exact inferInstance
                  · intro c22
                    refine x_exit ?_
                    refine e_then ?_
                    refine e_then ?_
                    refine e_block ?_
                    refine n_then ?_
                    refine x_seq ?_
                    refine x_region ?_
                    refine s_val rfl (v_move rfl) ?_
                    refine s_val rfl (v_move rfl) ?_
                    refine s_val rfl (v_assign rfl) ?_
                    refine s_val rfl (v_assign rfl) ?_
                    refine x_nil ?_
                    refine n_then ?_
                    refine x_ret ?_
                    refine x_done (.inl rfl) (.cons (r_tmp rfl) (.cons (r_tmp rfl) .nil)) ?_
                    have e2 : j = min ts.length 20 := by omega
                    subst e2
                    rw [hmk]
                    exact ⟨_, ⟨pv, ps, pm, qv, qs, qm, rfl, rfl⟩, inferInstance⟩
                · intro g22_5
                  refine s_no rfl rfl rfl rfl ?_
                  refine s_val rfl (v_pick_f rfl rfl) ?_
                  refine x_nil ?_
                  refine n_then ?_
                  refine x_iff rfl ?_
                  refine x_exit ?_
                  refine e_then ?_
                  refine e_then ?_
                  refine e_block ?_
                  refine n_then ?_
                  refine x_seq ?_
                  refine x_region ?_
                  refine s_val rfl (v_move rfl) ?_
                  refine s_val rfl (v_move rfl) ?_
                  refine s_val rfl (v_assign rfl) ?_
                  refine s_val rfl (v_assign rfl) ?_
                  refine x_nil ?_
                  refine n_then ?_
                  refine x_ret ?_
                  refine x_done (.inl rfl) (.cons (r_tmp rfl) (.cons (r_tmp rfl) .nil)) ?_
                  have e2 : j = min ts.length 20 := by omega
                  subst e2
                  rw [hmk]
                  exact ⟨_, ⟨pv, ps, pm, qv, qs, qm, rfl, rfl⟩, inferInstance⟩
          · intro g16_5
            refine s_no rfl rfl rfl rfl ?_
            refine s_val rfl (v_pick_f rfl rfl) ?_
            refine x_nil ?_
            refine n_then ?_
            refine x_iff rfl ?_
            refine x_exit ?_
            refine e_then ?_
            refine e_then ?_
            refine e_block ?_
            refine n_then ?_
            refine x_seq ?_
            refine x_seq ?_
            have e1 : i = min ds.length 8 := by omega
            obtain ⟨st, hst⟩ : ∃ x, mkA pg ds i = x := ⟨_, rfl⟩
            rw [hst] at hF hFl hFd ⊢
            have hmk : mk22 gone ds ts = mkB pg st ts (min ts.length 20) := by rw [mk22, hpg, ← e1, hst]
            clear e1
            refine x_region ?_
            refine s_val rfl (v_assign rfl) ?_
            refine x_nil ?_
            refine n_then ?_
            refine x_block ?_
            refine x_loop (fun i : Nat => i ≤ min ts.length 20) (fun i => [(2, .slice ap ts.length cp), (15, .pointer (some ⟨pv, 0, none⟩)), (17, .pointer (some ⟨qv, 0, none⟩)), (20, .int .i64 i)]) (fun i => prH pv ps pm qv qs qm (mkB pg st ts i).2 (mkB pg st ts i).1 pg R) (fun i => 20 - i) 0 ?_ ?_ ?_ ?_
            · exact Nat.zero_le _
            · repeat (first | exact sub_nil | refine sub_cons rfl ?_)
            · simp only [mkB]; exact inferInstance
            · intro j hj
              obtain ⟨hG, hGl, hGd⟩ := mkB_ok pg st ts ⟨hF, hFl, hFd⟩ j
              refine x_seq ?_
              refine x_seq ?_
              refine x_region ?_
              refine s_val rfl (v_move rfl) ?_
              refine s_val rfl (v_move rfl) ?_
              refine s_val rfl (v_len_slice Try.underlying55 rfl) ?_
              refine s_val rfl (v_lss rfl rfl) ?_
              refine s_val rfl (v_move rfl) ?_
              refine s_and rfl rfl rfl ?_ ?_
              · intro g22_5
                refine s_val rfl (v_move rfl) ?_
                refine s_yes rfl rfl ?_
                refine s_val rfl (v_lss rfl rfl) ?_
                refine s_val rfl (v_pick_t rfl rfl) ?_
                refine x_nil ?_
                refine n_then ?_
                refine x_if rfl ?_ ?_
                · intro c22
                  refine x_skip ?_
                  refine n_then ?_
                  refine x_seq ?_
                  refine x_block ?_
                  refine x_seq ?_
                  have hj1 : j < ts.length := by omega
                  obtain ⟨gp, op, rfl, hcp⟩ := hts.at_ hj1
                  have ht := htok _ (List.getElem_mem hj1)
                  have hgt : ts.getD j ⟨0, none, [], 0⟩ = ts[j] := by simp [List.getD, hj1]
                  have hpa := ht.pa
                  refine x_draw [(gp, op + j * 2, pt22V ts[j])] 12 mixed rfl (sc_cons hcp.weak sc_end) (fun hS => ?_)
                  refine d_take 0 rfl rfl (by kernel_rfl) (by kernel_rfl) (by kernel_rfl) rfl hS (v_move rfl) ?_
                  refine d_take 1 rfl rfl (by kernel_rfl) (by kernel_rfl) (by kernel_rfl) rfl hS (v_move rfl) ?_
                  refine d_take 2 rfl rfl (by kernel_rfl) (by kernel_rfl) (by kernel_rfl) rfl hS (v_move rfl) ?_
                  refine d_take 3 rfl rfl (by kernel_rfl) (by kernel_rfl) (by kernel_rfl) rfl hS (v_idx Try.underlying55 Try.sizeOf90 rfl rfl rfl hj1 (by first | exact Nat.zero_add _ | rfl)) ?_
                  refine d_take 4 rfl rfl (by kernel_rfl) (by kernel_rfl) (by kernel_rfl) rfl hS (v_fieldAddr rfl Try.underlying90 rfl Try.sizeOf28 rfl (by first | exact Nat.zero_add _ | rfl)) ?_
                  refine d_take 5 rfl rfl (by kernel_rfl) (by kernel_rfl) (by kernel_rfl) rfl hS (v_load Try.isAgg28 rfl (cell_sc (k := 0) (j := 0) rfl rfl)) ?_
                  refine d_take 6 rfl rfl (by kernel_rfl) (by kernel_rfl) (by kernel_rfl) rfl hS (v_move rfl) ?_
                  refine d_take 7 rfl rfl (by kernel_rfl) (by kernel_rfl) (by kernel_rfl) rfl hS (v_move rfl) ?_
                  refine d_take 8 rfl rfl (by kernel_rfl) (by kernel_rfl) (by kernel_rfl) rfl hS (v_idx Try.underlying55 Try.sizeOf90 rfl rfl rfl hj1 (by first | exact Nat.zero_add _ | rfl)) ?_
                  refine d_take 9 rfl rfl (by kernel_rfl) (by kernel_rfl) (by kernel_rfl) rfl hS (v_fieldAddr rfl Try.underlying90 rfl Try.sizeOf22 rfl (by first | exact Nat.zero_add _ | rfl)) ?_
                  refine d_take 10 rfl rfl (by kernel_rfl) (by kernel_rfl) (by kernel_rfl) rfl hS (v_load Try.isAgg22 rfl (cell_sc (k := 0) (j := 1) rfl rfl)) ?_
                  refine d_one 11 (by kernel_rfl) rfl rfl (d_call3 Try.call29 rfl (viWrite_spec W0 _ pv ps pm _ _ ts[j].a _ pg hP hG hGd ts[j].pa hpa ts[j].bs ht.by_ (SlA.weak ht.sl) ht.len)) rfl ?_; clear hS
                  rintro _ B_ ⟨rfl, hB_⟩
                  obtain rfl := hB_.symm
                  refine ⟨(sc_cons hcp.weak sc_end), fun hS => ?_⟩
                  refine d_done (by kernel_rfl) ?_; clear hS
                  refine n_then ?_
                  refine x_draw [(gp, op + j * 2, pt22V ts[j])] 12 mixed rfl (sc_cons hcp.weak sc_end) (fun hS => ?_)
                  refine d_take 0 rfl rfl (by kernel_rfl) (by kernel_rfl) (by kernel_rfl) rfl hS (v_move rfl) ?_
                  refine d_take 1 rfl rfl (by kernel_rfl) (by kernel_rfl) (by kernel_rfl) rfl hS (v_move rfl) ?_
                  refine d_take 2 rfl rfl (by kernel_rfl) (by kernel_rfl) (by kernel_rfl) rfl hS (v_move rfl) ?_
                  refine d_take 3 rfl rfl (by kernel_rfl) (by kernel_rfl) (by kernel_rfl) rfl hS (v_idx Try.underlying55 Try.sizeOf90 rfl rfl rfl hj1 (by first | exact Nat.zero_add _ | rfl)) ?_
                  refine d_take 4 rfl rfl (by kernel_rfl) (by kernel_rfl) (by kernel_rfl) rfl hS (v_fieldAddr rfl Try.underlying90 rfl Try.sizeOf28 rfl (by first | exact Nat.zero_add _ | rfl)) ?_
                  refine d_take 5 rfl rfl (by kernel_rfl) (by kernel_rfl) (by kernel_rfl) rfl hS (v_load Try.isAgg28 rfl (cell_sc (k := 0) (j := 0) rfl rfl)) ?_
                  refine d_take 6 rfl rfl (by kernel_rfl) (by kernel_rfl) (by kernel_rfl) rfl hS (v_move rfl) ?_
                  refine d_take 7 rfl rfl (by kernel_rfl) (by kernel_rfl) (by kernel_rfl) rfl hS (v_move rfl) ?_
                  refine d_take 8 rfl rfl (by kernel_rfl) (by kernel_rfl) (by kernel_rfl) rfl hS (v_idx Try.underlying55 Try.sizeOf90 rfl rfl rfl hj1 (by first | exact Nat.zero_add _ | rfl)) ?_
                  refine d_take 9 rfl rfl (by kernel_rfl) (by kernel_rfl) (by kernel_rfl) rfl hS (v_fieldAddr rfl Try.underlying90 rfl Try.sizeOf22 rfl (by first | exact Nat.zero_add _ | rfl)) ?_
                  refine d_take 10 rfl rfl (by kernel_rfl) (by kernel_rfl) (by kernel_rfl) rfl hS (v_load Try.isAgg22 rfl (cell_sc (k := 0) (j := 1) rfl rfl)) ?_
                  refine d_one 11 (by kernel_rfl) rfl rfl (d_call3 Try.call30 rfl (rvWrite_spec W0 _ qv qs qm _ _ ts[j].a _ pg hP hG ts[j].pa hpa ts[j].bs ht.by_ (SlA.weak ht.sl) ht.len)) rfl ?_; clear hS
                  rintro _ B_ ⟨rfl, hB_⟩
                  obtain rfl := hB_.symm
                  refine ⟨(sc_cons hcp.weak sc_end), fun hS => ?_⟩
                  refine d_done (by kernel_rfl) ?_; clear hS
                  refine n_block ?_
                  refine n_then ?_
                  refine x_region ?_
                  refine s_val rfl (v_move rfl) ?_
                  refine s_val rfl (v_add rfl rfl (by first | exact w64 (by omega) | rfl)) ?_
                  refine s_val rfl (v_assign rfl) ?_
                  refine x_nil ?_
                  refine n_then ?_
                  refine inv_intro (j + 1) ?_ ?_ ?_ ?_
                  · omega
                  · omega
                  · repeat (first | exact sub_nil | refine sub_cons rfl ?_)
                  · simp only [mkB, hgt]; exact inferInstance
                · intro c22
                  refine x_exit ?_
                  refine e_then ?_
                  refine e_then ?_
                  refine e_block ?_
                  refine n_then ?_
                  refine x_seq ?_
                  refine x_region ?_
                  refine s_val rfl (v_move rfl) ?_
                  refine s_val rfl (v_move rfl) ?_
                  refine s_val rfl (v_assign rfl) ?_
                  refine s_val rfl (v_assign rfl) ?_
                  refine x_nil ?_
                  refine n_then ?_
                  refine x_ret ?_
                  refine x_done (.inl rfl) (.cons (r_tmp rfl) (.cons (r_tmp rfl) .nil)) ?_
                  have e2 : j = min ts.length 20 := by omega
                  subst e2
                  rw [hmk]
                  exact ⟨_, ⟨pv, ps, pm, qv, qs, qm, rfl, rfl⟩, inferInstance⟩
              · intro g22_5
                refine s_no rfl rfl rfl rfl ?_
                refine s_val rfl (v_pick_f rfl rfl) ?_
                refine x_nil ?_
                refine n_then ?_
                refine x_iff rfl ?_
                refine x_exit ?_
                refine e_then ?_
                refine e_then ?_
                refine e_block ?_
                refine n_then ?_
                refine x_seq ?_
                refine x_region ?_
                refine s_val rfl (v_move rfl) ?_
                refine s_val rfl (v_move rfl) ?_
                refine s_val rfl (v_assign rfl) ?_
                refine s_val rfl (v_assign rfl) ?_
                refine x_nil ?_
                refine n_then ?_
                refine x_ret ?_
                refine x_done (.inl rfl) (.cons (r_tmp rfl) (.cons (r_tmp rfl) .nil)) ?_
                have e2 : j = min ts.length 20 := by omega
                subst e2
                rw [hmk]
                exact ⟨_, ⟨pv, ps, pm, qv, qs, qm, rfl, rfl⟩, inferInstance⟩
end Go.Proofs.Ytpmacnfjafpdcab
