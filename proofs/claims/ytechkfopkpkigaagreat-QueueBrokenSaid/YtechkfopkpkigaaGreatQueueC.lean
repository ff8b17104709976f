/-
  Layer 23 (queue): where a queue is laid; what the laws stand on.
-/
import Derived.Test.YtechkfopkpkigaaGreatQueueB
import Derived.Test.YtechkfopkpkigaaGreatLawB
namespace Go.Proofs.YtechkfopkpkigaaGreat
open Go.RowKit
set_option linter.unusedSimpArgs false
set_option linter.unusedVariables false
set_option maxRecDepth 20000

theorem fit_no {len : Nat} {pg : List Pl} {r : Rg3} {i : Nat} (hi : i < 3) (h : ¬ ownB len pg (rgAt r i) (qSz i r.n) = true) : fitB len pg r = false := by
  have h3 : i = 0 ∨ i = 1 ∨ i = 2 := by omega
  have h' : ownB len pg (rgAt r i) (qSz i r.n) = false := by simpa using h
  rw [fitB]
  rcases h3 with rfl | rfl | rfl
  · rw [show ownB len pg r.desc (qSz 0 r.n) = false from h']; simp
  · rw [show ownB len pg r.avail (qSz 1 r.n) = false from h']; simp
  · rw [show ownB len pg r.used (qSz 2 r.n) = false from h']; simp
theorem fit_yes {len : Nat} {pg : List Pl} {r : Rg3} (h : ∀ j, j < 3 → ownB len pg (rgAt r j) (qSz j r.n) = true) : fitB len pg r = rgtB r := by
  rw [fitB, show ownB len pg r.desc (qSz 0 r.n) = true from h 0 (by decide), show ownB len pg r.avail (qSz 1 r.n) = true from h 1 (by decide), show ownB len pg r.used (qSz 2 r.n) = true from h 2 (by decide)]; rfl
theorem rgAt_lt {r : Rg3} (hr : r.ok) {i : Nat} (hi : i < 3) : rgAt r i < 4294967296 := by
  have h3 : i = 0 ∨ i = 1 ∨ i = 2 := by omega
  rcases h3 with rfl | rfl | rfl
  · exact hr.desc
  · exact hr.avail
  · exact hr.used
theorem qFits_spec (W0 : World) (R : List HP) (pv ps pm d : Nat) (fr : List Frm) (pg : List Pl) (h : Pgs pg) (r : Rg3) (hr : r.ok) :
    Spec Tryz.prog W0 95 [.pointer (some ⟨pv, 0, none⟩), .agg (rgV r).toArray] (vwW pv ps pm d fr pg R) (fun v B => v = .bool (fitB fr.length pg r) ∧ B = vwW pv ps pm d fr pg R) := by
  refine spec_body Tryz.func95 Tryz.ntmps95 rfl rfl ?_
  refine x_seq ?_
  refine x_region ?_
  refine s_do rfl (d_boxA rfl) ?_
  rintro _ _ ⟨b1, rfl, rfl⟩
  refine s_val rfl (v_assign rfl) ?_
  refine x_nil ?_
  refine n_then ?_
  refine x_seq ?_
  refine x_seq ?_
  refine x_region ?_
  refine s_val rfl (v_fieldAddr rfl Tryz.underlying55 rfl Tryz.sizeOf53 rfl (by first | exact Nat.zero_add _ | rfl)) ?_
  refine s_val rfl (v_load Tryz.isAgg53 rfl (cell_own rfl)) ?_
  refine s_val rfl (v_fieldAddr rfl Tryz.underlying55 rfl Tryz.sizeOf53 rfl (by first | exact Nat.zero_add _ | rfl)) ?_
  refine s_val rfl (v_load Tryz.isAgg53 rfl (cell_own rfl)) ?_
  refine s_val rfl (v_fieldAddr rfl Tryz.underlying55 rfl Tryz.sizeOf53 rfl (by first | exact Nat.zero_add _ | rfl)) ?_
  refine s_val rfl (v_load Tryz.isAgg53 rfl (cell_own rfl)) ?_
  refine s_val rfl (v_buildArr Tryz.underlying250 Tryz.sizeOf53 Tryz.zeroValue250 rfl rfl rfl rfl) ?_
  refine s_val rfl (v_move rfl) ?_
  refine x_nil ?_
  refine n_then ?_
  refine x_block ?_
  refine x_loop (fun i : Nat => i ≤ 3 ∧ ∀ j, j < i → ownB fr.length pg (rgAt r j) (qSz j r.n) = true) (fun i => [(0, .pointer (some ⟨pv, 0, none⟩)), (3, .pointer (some ⟨b1, 0, none⟩)), (13, .agg ((List.range 3).map fun j => wV (rgAt r j)).toArray), (14, .int .i64 i)]) (fun i => pt b1 (cob (rgV r) 55) :: vwW pv ps pm d fr pg R) (fun i => 3 - i) 0 ?_ ?_ ?_ ?_
  · exact ⟨Nat.zero_le _, fun j hj => by omega⟩
  · repeat (first | exact sub_nil | refine sub_cons rfl ?_)
  · exact inferInstance
  · intro i ⟨hi, hI⟩
    refine x_seq ?_
    refine x_region ?_
    refine s_val rfl (v_lss rfl rfl) ?_
    refine x_nil ?_
    refine n_then ?_
    refine x_seq ?_
    refine x_if rfl ?_ ?_
    · intro c2
      refine x_skip ?_
      refine n_then ?_
      refine x_seq ?_
      refine x_block ?_
      refine x_seq ?_
      refine x_region ?_
      refine s_val rfl (v_move rfl) ?_
      refine s_val rfl (v_index Tryz.underlying250 Tryz.sizeOf53 Tryz.isAgg53 rfl rfl rfl (by omega) (range_get (by omega))) ?_
      refine s_val rfl (v_assign rfl) ?_
      refine s_val rfl (v_assign rfl) ?_
      refine x_nil ?_
      refine n_then ?_
      refine x_seq ?_
      refine x_region ?_
      refine s_val rfl (v_move rfl) ?_
      refine s_val rfl (v_move rfl) ?_
      refine s_val rfl (v_move rfl) ?_
      refine s_val rfl (v_fieldAddr rfl Tryz.underlying55 rfl Tryz.sizeOf3 rfl (by first | exact Nat.zero_add _ | rfl)) ?_
      refine s_val rfl (v_load Tryz.isAgg3 rfl (cell_own rfl)) ?_
      refine s_do rfl (d_call Tryz.call174 rfl (dsSize_spec W0 _ i r.n)) ?_
      rintro _ B_ ⟨rfl, hB_⟩
      obtain rfl := hB_.symm
      refine s_do rfl (d_call3 Tryz.call123 rfl (viOwn_spec W0 _ pv ps pm d fr pg h (rgAt r i) (rgAt_lt hr (by omega)) (qSz i r.n))) ?_
      rintro _ B_ ⟨rfl, hB_⟩
      obtain rfl := hB_.symm
      refine s_val rfl (v_not rfl) ?_
      refine x_nil ?_
      refine n_then ?_
      refine x_if rfl ?_ ?_
      · intro c4
        refine x_seq ?_
        refine x_region ?_
        refine s_val rfl (v_assign rfl) ?_
        refine x_nil ?_
        refine n_then ?_
        refine x_ret ?_
        refine r_block ?_
        refine r_then ?_
        refine r_then ?_
        refine r_block ?_
        refine r_then ?_
        refine x_done (.inl rfl) (.cons (r_tmp rfl) .nil) ?_
        refine ⟨_, ⟨?_, rfl⟩, inferInstance⟩
        rw [fit_no (by omega) c4]; rfl
      · intro c4
        have ho := Decidable.not_not.1 c4
        refine x_skip ?_
        refine n_block ?_
        refine n_then ?_
        refine x_region ?_
        refine s_val rfl (v_add rfl rfl (by first | exact w64 (by omega) | rfl)) ?_
        refine s_val rfl (v_move rfl) ?_
        refine x_nil ?_
        refine n_then ?_
        refine inv_intro (i + 1) ?_ ?_ ?_ ?_
        · exact ⟨by omega, fun m hm => by
            rcases Nat.lt_or_ge m i with q | q
            · exact hI m q
            · rw [show m = i by omega]; exact ho⟩
        · omega
        · repeat (first | exact sub_nil | refine sub_cons rfl ?_)
        · exact inferInstance
    · intro c2
      refine x_exit ?_
      refine e_then ?_
      refine e_then ?_
      refine e_block ?_
      refine n_then ?_
      refine x_seq ?_
      obtain rfl : i = 3 := by omega
      refine x_region ?_
      refine s_val rfl (v_loadAll Tryz.isAgg55 Tryz.sizeOf55 rfl rfl) ?_
      refine s_do rfl (d_call Tryz.call175 rfl (dsRight_spec W0 _ r)) ?_
      rintro _ B_ ⟨rfl, hB_⟩
      obtain rfl := hB_.symm
      refine s_val rfl (v_assign rfl) ?_
      refine x_nil ?_
      refine n_then ?_
      refine x_ret ?_
      refine x_done (.inl rfl) (.cons (r_tmp rfl) .nil) ?_
      refine ⟨_, ⟨?_, rfl⟩, inferInstance⟩
      rw [fit_yes hI]; rfl
theorem qLay_spec (W0 : World) (R : List HP) (b pv ps pm d : Nat) (fr : List Frm) (pg : List Pl) (h : Pgs pg) (s : QS) (r : Rg3) (hr : r.ok) (hf : fitB fr.length pg r = true) :
    Spec Tryz.prog W0 26 [.pointer (some ⟨b, 0, none⟩), .pointer (some ⟨pv, 0, none⟩), .agg (rgV r).toArray] (pt b (qO true s) :: vwW pv ps pm d fr pg R)
      (fun v B => v = .int .i64 0 ∧ B = pt b (qO true ⟨r, true, 0, 0, 0⟩) :: vwW pv ps pm d fr pg R) := by
  refine spec_body Tryz.func26 Tryz.ntmps26 rfl rfl ?_
  refine x_seq ?_
  refine x_region ?_
  refine s_do rfl (d_boxA rfl) ?_
  rintro _ _ ⟨b1, rfl, rfl⟩
  refine s_val rfl (v_assign rfl) ?_
  refine x_nil ?_
  refine n_then ?_
  refine x_seq ?_
  refine x_block ?_
  refine x_seq ?_
  refine x_region ?_
  refine s_val rfl (v_move rfl) ?_
  refine s_do rfl (d_call1 Tryz.call94 rfl (qNone_spec W0 _ b true s)) ?_
  rintro _ B_ ⟨rfl, hB_⟩
  obtain rfl := hB_.symm
  refine s_val rfl (v_assign rfl) ?_
  refine x_nil ?_
  refine n_then ?_
  refine x_if rfl ?_ ?_
  · intro c1
    exact absurd c1 (by decide)
  · intro c1
    refine x_seq ?_
    refine x_region ?_
    refine s_val rfl (v_move rfl) ?_
    refine s_val rfl (v_loadAll Tryz.isAgg55 Tryz.sizeOf55 rfl rfl) ?_
    refine s_do rfl (d_call3 Tryz.call95 rfl (qFits_spec W0 _ pv ps pm d fr pg h r hr)) ?_
    rintro _ B_ ⟨rfl, hB_⟩
    obtain rfl := hB_.symm
    refine s_val rfl (v_not rfl) ?_
    refine s_val rfl (v_assign rfl) ?_
    refine x_nil ?_
    refine n_then ?_
    refine x_if rfl ?_ ?_
    · intro c3
      exact absurd hf c3
    · intro c3
      refine x_skip ?_
      refine n_block ?_
      refine n_then ?_
      refine x_seq ?_
      refine x_region ?_
      refine s_val rfl (v_move rfl) ?_
      refine s_val rfl (v_loadAll Tryz.isAgg55 Tryz.sizeOf55 rfl rfl) ?_
      refine s_val rfl (v_build Tryz.underlying59 Tryz.zeroValue59 (sized_cons Tryz.sizeOf55 (sized_cons Tryz.sizeOf4 (sized_cons Tryz.sizeOf3 (sized_cons Tryz.sizeOf3 (sized_cons Tryz.sizeOf3 sized_nil))))) (fil_agg rfl Tryz.sizeOf55 rfl rfl (Nat.le_of_ble_eq_true rfl) SetRL.eq (fil_scal rfl Tryz.sizeOf4 rfl rfl (Nat.le_of_ble_eq_true rfl) SetL.eq fil_nil))) ?_
      refine s_val rfl (v_nilCheck rfl) ?_
      refine s_val rfl (v_fieldAddr rfl Tryz.underlying167 rfl Tryz.sizeOf59 rfl (by first | exact Nat.zero_add _ | rfl)) ?_
      refine s_do0 (d_storeAgg Tryz.sizeOf59 rfl rfl rfl rfl (Nat.le_of_ble_eq_true rfl) SetRL.eq) ?_
      rintro _ _ rfl
      refine x_nil ?_
      refine n_then ?_
      refine x_seq ?_
      refine x_region ?_
      refine s_val rfl (v_assign rfl) ?_
      refine x_nil ?_
      refine n_then ?_
      refine x_ret ?_
      refine x_done (.inl rfl) (.cons (r_tmp rfl) .nil) ?_
      exact ⟨_, ⟨rfl, rfl⟩, inferInstance⟩
theorem lies_spec (W0 : World) (R : List HP) : Spec Tryz.prog W0 27 [] R (fun v B => v = .agg (rgV ⟨0, 128, 192, 4⟩).toArray ∧ B = R) := by
  refine spec_body Tryz.func27 Tryz.ntmps27 rfl rfl ?_
  refine x_seq ?_
  refine x_region ?_
  refine s_do rfl (d_allocA Tryz.zeroValue55) ?_
  rintro _ _ ⟨b1, rfl, rfl⟩
  refine x_nil ?_
  refine n_then ?_
  refine x_seq ?_
  refine x_region ?_
  refine s_val rfl (v_build Tryz.underlying55 Tryz.zeroValue55 (sized_cons Tryz.sizeOf53 (sized_cons Tryz.sizeOf53 (sized_cons Tryz.sizeOf53 (sized_cons Tryz.sizeOf3 sized_nil)))) (fil_scal rfl Tryz.sizeOf53 rfl rfl (Nat.le_of_ble_eq_true rfl) SetL.eq (fil_scal rfl Tryz.sizeOf53 rfl rfl (Nat.le_of_ble_eq_true rfl) SetL.eq (fil_scal rfl Tryz.sizeOf53 rfl rfl (Nat.le_of_ble_eq_true rfl) SetL.eq (fil_scal rfl Tryz.sizeOf3 rfl rfl (Nat.le_of_ble_eq_true rfl) SetL.eq fil_nil))))) ?_
  refine s_do0 (d_storeAll Tryz.sizeOf55 rfl rfl rfl rfl rfl) ?_
  rintro _ _ rfl
  refine x_nil ?_
  refine n_then ?_
  refine x_ret ?_
  refine x_done (.inl rfl) (.cons (r_all Tryz.isAgg55 Tryz.sizeOf55 rfl rfl) .nil) ?_
  exact ⟨_, ⟨rfl, rfl⟩, inferInstance⟩

def pg23 : Nat → List Pl
  | 0 => List.replicate 12 (0, 0)
  | i + 1 => setP (pg23 i) i ((i : Int), 3)
theorem pg23_ok : ∀ i, Pgs (pg23 i)
  | 0 => pgz
  | i + 1 => by rw [pg23]; exact setP_ok (pg23_ok i)
def mkC (pg : List Pl) (ds : List Dsc) : Nat → List Frm × Nat
  | 0 => (List.replicate 8 zeros, 0)
  | i + 1 => (wrF (mkC pg ds i).1 pg (16 * i) (putD (ds.getD i zD)), wrE (mkC pg ds i).1 pg (16 * i) (mkC pg ds i).2 16)
theorem mkC_ok (pg : List Pl) (ds : List Dsc) : ∀ i, Frs (mkC pg ds i).1 ∧ (mkC pg ds i).1.length = 8 ∧ (mkC pg ds i).2 < 4096
  | 0 => ⟨Frs.new 8, by simp [mkC], by simp [mkC]⟩
  | i + 1 => by
    obtain ⟨h1, h2, h3⟩ := mkC_ok pg ds i
    exact ⟨(wrF_ok h1).1, (wrF_ok h1).2.trans h2, wrE_lt h3⟩
def mk23 (ds : List Dsc) : List Frm × Nat := mkC (pg23 8) ds (min ds.length 8)
theorem mk23_ok (ds : List Dsc) : Frs (mk23 ds).1 ∧ (mk23 ds).1.length = 8 ∧ (mk23 ds).2 < 4096 := mkC_ok _ _ _
theorem made23_spec (W0 : World) (R : List HP) (al : Option Addr) (cl : Nat) (ds : List Dsc) (hds : SlA (OwnP W0 R) al 4 dsV ds) (hok : ∀ d ∈ ds, d.ok) (hl : ds.length < 9223372036854775808) :
    Spec Tryz.prog W0 24 [.slice al ds.length cl] R
      (fun v B => ∃ pv ps pm qv qs qm, v = .tuple #[.pointer (some ⟨pv, 0, none⟩), .pointer (some ⟨qv, 0, none⟩)] ∧ B = prH pv ps pm qv qs qm (mk23 ds).2 (mk23 ds).1 (pg23 8) R) := by
  refine spec_body Tryz.func24 Tryz.ntmps24 rfl rfl ?_
  refine x_seq ?_
  refine x_region ?_
  refine s_val rfl (v_assign rfl) ?_
  refine s_val rfl (v_assign rfl) ?_
  refine x_nil ?_
  refine n_then ?_
  refine x_seq ?_
  refine x_region ?_
  refine s_do rfl (d_call Tryz.call85 rfl (frNew_spec W0 _ 8 (by decide))) ?_
  rintro _ B_ ⟨ps, rfl, hB_⟩
  obtain rfl := hB_.symm
  refine s_val rfl (v_move rfl) ?_
  refine s_val rfl (v_extract rfl rfl) ?_
  refine s_val rfl (v_extract rfl rfl) ?_
  refine s_val rfl (v_assign rfl) ?_
  refine s_val rfl (v_assign rfl) ?_
  refine x_nil ?_
  refine n_then ?_
  refine x_seq ?_
  refine x_region ?_
  refine s_do rfl (d_call Tryz.call86 rfl (gmNew_spec W0 _)) ?_
  rintro _ B_ ⟨pm, rfl, hB_⟩
  obtain rfl := hB_.symm
  refine s_val rfl (v_assign rfl) ?_
  refine x_nil ?_
  refine n_then ?_
  refine x_seq ?_
  refine x_region ?_
  refine s_do rfl (d_call Tryz.call87 rfl (rfNew_spec W0 _ 8 (by decide))) ?_
  rintro _ B_ ⟨qs, rfl, hB_⟩
  obtain rfl := hB_.symm
  refine s_val rfl (v_move rfl) ?_
  refine s_val rfl (v_extract rfl rfl) ?_
  refine s_val rfl (v_extract rfl rfl) ?_
  refine s_val rfl (v_assign rfl) ?_
  refine s_val rfl (v_assign rfl) ?_
  refine x_nil ?_
  refine n_then ?_
  refine x_seq ?_
  refine x_region ?_
  refine s_val rfl (v_build Tryz.underlying159 Tryz.zeroValue159 (sized_cons Tryz.sizeOf117 (sized_cons Tryz.sizeOf157 sized_nil)) fil_nil) ?_
  refine s_do rfl (d_boxA rfl) ?_
  rintro _ _ ⟨qm, rfl, rfl⟩
  refine s_val rfl (v_assign rfl) ?_
  refine x_nil ?_
  refine n_then ?_
  refine x_seq ?_
  refine x_seq ?_
  refine run_pt (b := qm) (o' := rgO (List.replicate 12 (0, 0))) rfl ?_
  refine x_region ?_
  refine s_val rfl (v_assign rfl) ?_
  refine x_nil ?_
  refine n_then ?_
  refine x_block ?_
  refine x_loop (fun i : Nat => i ≤ 8) (fun i => [(0, .slice al ds.length cl), (4, .pointer (some ⟨ps, 0, none⟩)), (6, .pointer (some ⟨pm, 0, none⟩)), (7, .pointer (some ⟨qs, 0, none⟩)), (9, .pointer (some ⟨qm, 0, none⟩)), (10, .int .i64 i)]) (fun i => pt qm (rgO (pg23 i)) :: rstoH qs (List.replicate 8 zeros) :: pt pm (gmO (pg23 i)) :: stoH ps (List.replicate 8 zeros) :: R) (fun i => 8 - i) 0 ?_ ?_ ?_ ?_
  · exact Nat.zero_le _
  · repeat (first | exact sub_nil | refine sub_cons rfl ?_)
  · simp only [pg23]; exact inferInstance
  · intro i hi
    have hP := pg23_ok i
    refine x_seq ?_
    refine x_seq ?_
    refine x_region ?_
    refine s_val rfl (v_move rfl) ?_
    refine s_val rfl (v_lss rfl rfl) ?_
    refine x_nil ?_
    refine n_then ?_
    refine x_if rfl ?_ ?_
    · intro c6
      refine x_skip ?_
      refine n_then ?_
      refine x_seq ?_
      refine x_block ?_
      refine x_seq ?_
      refine x_region ?_
      refine s_val rfl (v_move rfl) ?_
      refine s_val rfl (v_move rfl) ?_
      refine s_val rfl (v_move rfl) ?_
      refine s_val rfl (v_build Tryz.underlying156 Tryz.zeroValue156 (sized_cons Tryz.sizeOf3 (sized_cons Tryz.sizeOf3 sized_nil)) (fil_scal rfl Tryz.sizeOf3 rfl rfl (Nat.le_of_ble_eq_true rfl) SetL.eq (fil_scal rfl Tryz.sizeOf3 rfl rfl (Nat.le_of_ble_eq_true rfl) SetL.eq fil_nil))) ?_
      refine s_do rfl (d_call1 Tryz.call88 rfl (gmSet_spec W0 _ pm _ hP i ((i : Int), 3))) ?_
      rintro _ B_ ⟨rfl, hB_⟩
      obtain rfl := hB_.symm
      refine x_nil ?_
      refine n_then ?_
      refine x_region ?_
      refine s_val rfl (v_move rfl) ?_
      refine s_val rfl (v_move rfl) ?_
      refine s_val rfl (v_move rfl) ?_
      refine s_val rfl (v_build Tryz.underlying156 Tryz.zeroValue156 (sized_cons Tryz.sizeOf3 (sized_cons Tryz.sizeOf3 sized_nil)) (fil_scal rfl Tryz.sizeOf3 rfl rfl (Nat.le_of_ble_eq_true rfl) SetL.eq (fil_scal rfl Tryz.sizeOf3 rfl rfl (Nat.le_of_ble_eq_true rfl) SetL.eq fil_nil))) ?_
      refine s_do rfl (d_call1 Tryz.call89 rfl (rgSet_spec W0 _ qm _ hP i ((i : Int), 3))) ?_
      rintro _ B_ ⟨rfl, hB_⟩
      obtain rfl := hB_.symm
      refine x_nil ?_
      refine n_block ?_
      refine n_then ?_
      refine x_region ?_
      refine s_val rfl (v_move rfl) ?_
      refine s_val rfl (v_add rfl rfl (by first | exact w64 (by omega) | rfl)) ?_
      refine s_val rfl (v_assign rfl) ?_
      refine x_nil ?_
      refine n_then ?_
      refine inv_intro (i + 1) ?_ ?_ ?_ ?_
      · omega
      · omega
      · repeat (first | exact sub_nil | refine sub_cons rfl ?_)
      · simp only [pg23]; exact inferInstance
    · intro c6
      refine x_exit ?_
      refine e_then ?_
      refine e_then ?_
      refine e_block ?_
      refine n_then ?_
      refine x_seq ?_
      obtain rfl : i = 8 := by omega
      have hP := pg23_ok 8
      obtain ⟨pg, hpg⟩ : ∃ x, pg23 8 = x := ⟨_, rfl⟩
      rw [hpg] at hP ⊢
      refine x_region ?_
      refine s_val rfl (v_move rfl) ?_
      refine s_val rfl (v_move rfl) ?_
      refine s_do rfl (d_call2 Tryz.call90 rfl (viNew_spec W0 _ ps pm _ _ hP (by decide))) ?_
      rintro _ B_ ⟨pv, rfl, hB_⟩
      obtain rfl := hB_.symm
      refine s_val rfl (v_move rfl) ?_
      refine s_val rfl (v_extract rfl rfl) ?_
      refine s_val rfl (v_extract rfl rfl) ?_
      refine s_val rfl (v_assign rfl) ?_
      refine s_val rfl (v_assign rfl) ?_
      refine x_nil ?_
      refine n_then ?_
      refine x_seq ?_
      refine x_seq ?_
      refine x_region ?_
      refine s_val rfl (v_move rfl) ?_
      refine s_val rfl (v_neq rfl rfl) ?_
      refine x_nil ?_
      refine n_then ?_
      refine x_if rfl ?_ ?_
      · intro c11
        exact absurd rfl c11
      · intro c11
        refine x_skip ?_
        refine n_then ?_
        refine x_seq ?_
        refine x_region ?_
        refine s_val rfl (v_move rfl) ?_
        refine s_val rfl (v_move rfl) ?_
        refine s_val rfl (v_build Tryz.underlying119 Tryz.zeroValue119 (sized_cons Tryz.sizeOf115 (sized_cons Tryz.sizeOf116 (sized_cons Tryz.sizeOf117 sized_nil))) (fil_scal rfl Tryz.sizeOf115 rfl rfl (Nat.le_of_ble_eq_true rfl) SetL.eq (fil_scal rfl Tryz.sizeOf116 rfl rfl (Nat.le_of_ble_eq_true rfl) SetL.eq fil_nil))) ?_
        refine s_do rfl (d_boxA rfl) ?_
        rintro _ _ ⟨qv, rfl, rfl⟩
        refine s_val rfl (v_assign rfl) ?_
        refine x_nil ?_
        refine n_then ?_
        refine x_seq ?_
        refine x_seq ?_
        refine run_pt (b := qv) (o' := rvO qs qm 0) rfl ?_
        have hmk : mk23 ds = mkC pg ds (min ds.length 8) := by rw [mk23, hpg]
        refine x_region ?_
        refine s_val rfl (v_assign rfl) ?_
        refine x_nil ?_
        refine n_then ?_
        refine x_block ?_
        refine x_loop (fun i : Nat => i ≤ min ds.length 8) (fun i => [(0, .slice al ds.length cl), (11, .pointer (some ⟨pv, 0, none⟩)), (13, .pointer (some ⟨qv, 0, none⟩)), (14, .int .i64 i)]) (fun i => prH pv ps pm qv qs qm (mkC pg ds i).2 (mkC pg ds i).1 pg R) (fun i => 8 - i) 0 ?_ ?_ ?_ ?_
        · exact Nat.zero_le _
        · repeat (first | exact sub_nil | refine sub_cons rfl ?_)
        · simp only [mkC]; exact inferInstance
        · intro i hi
          obtain ⟨hF, hFl, hFd⟩ := mkC_ok pg ds i
          refine x_seq ?_
          refine x_seq ?_
          refine x_region ?_
          refine s_val rfl (v_move rfl) ?_
          refine s_val rfl (v_move rfl) ?_
          refine s_val rfl (v_len_slice Tryz.underlying43 rfl) ?_
          refine s_val rfl (v_lss rfl rfl) ?_
          refine s_val rfl (v_move rfl) ?_
          refine s_and rfl rfl rfl ?_ ?_
          · intro g15_5
            refine s_val rfl (v_move rfl) ?_
            refine s_yes rfl rfl ?_
            refine s_val rfl (v_lss rfl rfl) ?_
            refine s_val rfl (v_pick_t rfl rfl) ?_
            refine x_nil ?_
            refine n_then ?_
            refine x_if rfl ?_ ?_
            · intro c15
              refine x_skip ?_
              refine n_then ?_
              refine x_seq ?_
              refine x_block ?_
              refine x_seq ?_
              have hi1 : i < ds.length := by omega
              obtain ⟨g, o, rfl, hc⟩ := hds.at_ hi1
              have hdi := hok _ (List.getElem_mem hi1)
              have hgd : ds.getD i zD = ds[i] := by simp [List.getD, hi1]
              refine x_region ?_
              refine s_val rfl (v_move rfl) ?_
              refine s_val rfl (v_move rfl) ?_
              refine s_val rfl (v_idx Tryz.underlying43 Tryz.sizeOf99 rfl rfl rfl hi1 (by first | exact Nat.zero_add _ | rfl)) ?_
              refine s_val rfl (v_loadAgg Tryz.isAgg99 Tryz.sizeOf99 rfl hc.weak rfl) ?_
              refine s_do rfl (d_call Tryz.call91 rfl (dsPut_spec W0 _ ds[i] hdi)) ?_
              rintro _ B_ ⟨a', c', rfl, hB_⟩
              obtain rfl := hB_.symm
              refine run_form (E := 5) (sz := 1) (a := a') (c := c') (n := 16) (fun hf => ?_)
              refine s_val rfl (v_assign rfl) ?_
              refine x_nil ?_
              refine n_then ?_
              refine x_seq ?_
              refine x_region ?_
              refine s_val rfl (v_move rfl) ?_
              refine s_val rfl (v_move rfl) ?_
              refine s_val rfl (v_mul rfl rfl (by rw [w64 (by omega)]; omega : IntKind.wrap .i64 (16 * (i : Int)) = ((16 * i : Nat) : Int))) ?_
              refine s_val rfl (v_conv Tryz.underlying3 Tryz.underlying53 rfl (w32u (by omega))) ?_
              refine s_val rfl (v_move rfl) ?_
              refine s_do rfl (d_call3 Tryz.call92 rfl (viWriteN_spec W0 _ pv ps pm _ c' 16 a' _ pg hP hF hFd (16 * i) (by omega) (putD ds[i]) (putD_len _) (bytesL_by _) (sla_cells hf (cells_osl (E := 5) (sz := 1) (a := a') (c := c') (n := 16)) (fun _ => rfl) (byV_fm _).symm (by decide)) (by decide))) ?_
              rintro _ B_ ⟨rfl, hB_⟩
              obtain rfl := hB_.symm
              refine x_nil ?_
              refine n_then ?_
              refine x_region ?_
              refine s_val rfl (v_move rfl) ?_
              refine s_val rfl (v_move rfl) ?_
              refine s_val rfl (v_mul rfl rfl (by rw [w64 (by omega)]; omega : IntKind.wrap .i64 (16 * (i : Int)) = ((16 * i : Nat) : Int))) ?_
              refine s_val rfl (v_conv Tryz.underlying3 Tryz.underlying53 rfl (w32u (by omega))) ?_
              refine s_val rfl (v_move rfl) ?_
              refine s_do rfl (d_call3 Tryz.call93 rfl (rvWriteN_spec W0 _ qv qs qm _ c' 16 a' _ pg hP hF (16 * i) (by omega) (putD ds[i]) (putD_len _) (bytesL_by _) (sla_cells hf (cells_osl (E := 5) (sz := 1) (a := a') (c := c') (n := 16)) (fun _ => rfl) (byV_fm _).symm (by decide)) (by decide))) ?_
              rintro _ B_ ⟨rfl, hB_⟩
              obtain rfl := hB_.symm
              refine x_nil ?_
              refine n_block ?_
              refine n_then ?_
              refine x_region ?_
              refine s_val rfl (v_move rfl) ?_
              refine s_val rfl (v_add rfl rfl (by first | exact w64 (by omega) | rfl)) ?_
              refine s_val rfl (v_assign rfl) ?_
              refine x_nil ?_
              refine n_then ?_
              refine inv_intro (i + 1) ?_ ?_ ?_ ?_
              · omega
              · omega
              · repeat (first | exact sub_nil | refine sub_cons rfl ?_)
              · simp only [mkC, hgd]; exact inferInstance
            · intro c15
              refine x_exit ?_
              refine e_then ?_
              refine e_then ?_
              refine e_block ?_
              refine n_then ?_
              refine x_seq ?_
              refine x_region ?_
              refine s_val rfl (v_move rfl) ?_
              refine s_val rfl (v_move rfl) ?_
              refine s_val rfl (v_assign rfl) ?_
              refine s_val rfl (v_assign rfl) ?_
              refine x_nil ?_
              refine n_then ?_
              refine x_ret ?_
              refine x_done (.inl rfl) (.cons (r_tmp rfl) (.cons (r_tmp rfl) .nil)) ?_
              have e2 : i = min ds.length 8 := by omega
              subst e2
              rw [hmk]
              exact ⟨_, ⟨pv, ps, pm, qv, qs, qm, rfl, rfl⟩, inferInstance⟩
          · intro g15_5
            refine s_no rfl rfl rfl rfl ?_
            refine s_val rfl (v_pick_f rfl rfl) ?_
            refine x_nil ?_
            refine n_then ?_
            refine x_iff rfl ?_
            refine x_exit ?_
            refine e_then ?_
            refine e_then ?_
            refine e_block ?_
            refine n_then ?_
            refine x_seq ?_
            refine x_region ?_
            refine s_val rfl (v_move rfl) ?_
            refine s_val rfl (v_move rfl) ?_
            refine s_val rfl (v_assign rfl) ?_
            refine s_val rfl (v_assign rfl) ?_
            refine x_nil ?_
            refine n_then ?_
            refine x_ret ?_
            refine x_done (.inl rfl) (.cons (r_tmp rfl) (.cons (r_tmp rfl) .nil)) ?_
            have e2 : i = min ds.length 8 := by omega
            subst e2
            rw [hmk]
            exact ⟨_, ⟨pv, ps, pm, qv, qs, qm, rfl, rfl⟩, inferInstance⟩
end Go.Proofs.YtechkfopkpkigaaGreat
