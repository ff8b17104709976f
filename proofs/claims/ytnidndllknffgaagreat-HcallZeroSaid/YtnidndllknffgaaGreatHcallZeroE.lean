/-
  Part 5 of the proof of HcallZero: rules, and walks of functions. Conditions: none.
-/
import Derived.Test.YtnidndllknffgaaGreatHcallZeroD
namespace Go.Proofs.YtnidndllknffgaaGreat
open Go.RowKit
set_option linter.unusedSimpArgs false
set_option linter.unusedVariables false
set_option maxRecDepth 20000
abbrev pV (b : Nat) : Value := .pointer (some ⟨b, 0, none⟩)
structure Bd where
  r : Nat
  c : Nat
  m : Nat
  v : Nat
  t : Nat
@[reducible] def bdV (x : Bd) (qs : List Nat) : List Value := [pV x.r, pV x.c, pV x.m] ++ (qs.map pV ++ List.replicate (3 - qs.length) (.pointer none)) ++ [pV x.v, pV x.t, .bool false, .int .u32 0, .int .u32 0, .int .u32 0, .int .u32 0]
theorem bd_set {x : Bd} {q : Nat} : ∀ {qs : List Nat}, qs.length < 3 → (bdV x qs).set (3 + qs.length * 1) (pV q) = bdV x (qs ++ [q])
  | [], _ => rfl
  | [a], _ => rfl
  | [a, b], _ => rfl
theorem bd_len {x : Bd} {qs : List Nat} (h : qs.length ≤ 3) : (bdV x qs).length = 13 := by
  simp [bdV]; omega
abbrev bdH (x : Bd) (i bt bs pv : Nat) (T : List HP) : List HP := pt x.r (rfO (List.replicate 16 0) 0) :: pt x.c (csO i) :: pt x.m (mnO pv bt bs) :: rowH bt ([], [.int .i64 ((4 : Nat) : Int), .int .i64 0, .bool true]) :: pt bs (cob [nilS, .bool true] 512) :: pt x.v vcO :: pt x.t tmO :: T
theorem grp_snoc {l : List HP} {x : HP} {R : List HP} : Ent (x :: kH 6 (grp l) :: R) (kH 6 (grp (l ++ [x])) :: R) :=
  (Ent.cons (ent_open (A := l) (R := R))).trans ((Ent.ofPerm (by
    show (x :: (l ++ R)).Perm ((l ++ [x]) ++ R)
    rw [List.append_assoc]
    exact (List.perm_middle).symm)).trans ent_shut)
@[reducible] def bdL (x : Bd) (q0 q1 q2 : Nat) : List Value := [pV x.r, pV x.c, pV x.m, pV q0, pV q1, pV q2, pV x.v, pV x.t, .bool false, .int .u32 0, .int .u32 0, .int .u32 0, .int .u32 0]
theorem gsFresh_spec (W0 : World) (R : List HP) (i pv ps pm d : Nat) (hi : i < 4) :
    Spec Tryz.prog W0 91 [.int .i64 i, pV pv] (pt pv (viO ps pm d) :: R)
      (fun v B => ∃ x bt bs q0 q1 q2, v = .tuple #[.agg (bdL x q0 q1 q2).toArray, .int .i64 0] ∧ B = bdH x i bt bs pv (kH 6 (grp [pt q0 (qO true qs0), pt q1 (qO true qs0), pt q2 (qO true qs0)]) :: pt pv (viO ps pm d) :: R)) := by
  refine spec_body Tryz.func91 Tryz.ntmps91 rfl rfl ?_
  refine x_seq (x_region (s_do rfl (d_allocA Tryz.zeroValue138) ?_))
  rintro _ _ ⟨b4, rfl, rfl⟩
  refine s_val rfl (v_assign rfl) (x_nil (n_then (x_seq (x_region (s_val rfl (v_move rfl) (s_do rfl (d_call Tryz.call208 rfl (csNew_spec W0 _ i hi)) ?_))))))
  rintro _ B_ ⟨cb, rfl, hB_⟩
  obtain rfl := hB_.symm
  refine s_val rfl (v_move rfl) (s_val rfl (v_extract rfl rfl) (s_val rfl (v_extract rfl rfl) (s_val rfl (v_assign rfl) (s_val rfl (v_assign rfl) (x_nil (n_then (x_seq (x_seq (x_region (s_val rfl (v_move rfl) (s_val rfl (v_neq rfl rfl) (x_nil (n_then ?_)))))))))))))
  refine x_if rfl ?_ ?_
  · intro c2
    exact absurd c2 (by decide)
  · intro c2
    refine x_skip (n_then (x_seq (x_region (s_val rfl (v_move rfl) ?_))))
    refine s_do rfl (d_call1 Tryz.call209 rfl (mnNew_spec W0 _ pv ps pm d 4 (by decide))) ?_
    rintro _ B_ ⟨bm, bt, bs, rfl, hB_⟩
    obtain rfl := hB_.symm
    refine s_val rfl (v_move rfl) (s_val rfl (v_extract rfl rfl) (s_val rfl (v_extract rfl rfl) (s_val rfl (v_assign rfl) (s_val rfl (v_assign rfl) (x_nil (n_then (x_seq (x_seq (x_region (s_val rfl (v_move rfl) (s_val rfl (v_neq rfl rfl) (x_nil (n_then ?_)))))))))))))
    refine x_if rfl ?_ ?_
    · intro c5
      exact absurd c5 (by decide)
    · intro c5
      refine x_skip (n_then (x_seq (x_region (s_do rfl (d_call Tryz.call210 rfl (regsNew_spec W0 _)) ?_))))
      rintro _ B_ ⟨rb, rfl, hB_⟩
      obtain rfl := hB_.symm
      refine s_val rfl (v_move rfl) (s_val rfl (v_move rfl) (s_do rfl (d_call Tryz.call211 rfl (vcNew_spec W0 _)) ?_))
      rintro _ B_ ⟨vb, rfl, hB_⟩
      obtain rfl := hB_.symm
      refine s_do rfl (d_call Tryz.call212 rfl (tmNew_spec W0 _)) ?_
      rintro _ B_ ⟨tb, rfl, hB_⟩
      obtain rfl := hB_.symm
      refine s_val rfl (v_build Tryz.underlying138 Tryz.zeroValue138 (sized_cons Tryz.sizeOf130 (sized_cons Tryz.sizeOf131 (sized_cons Tryz.sizeOf132 (sized_cons Tryz.sizeOf134 (sized_cons Tryz.sizeOf135 (sized_cons Tryz.sizeOf136 (sized_cons Tryz.sizeOf4 (sized_cons Tryz.sizeOf43 sized_nil)))))))) (fil_scal rfl Tryz.sizeOf130 rfl rfl (Nat.le_of_ble_eq_true rfl) SetL.eq (fil_scal rfl Tryz.sizeOf131 rfl rfl (Nat.le_of_ble_eq_true rfl) SetL.eq (fil_scal rfl Tryz.sizeOf132 rfl rfl (Nat.le_of_ble_eq_true rfl) SetL.eq (fil_scal rfl Tryz.sizeOf135 rfl rfl (Nat.le_of_ble_eq_true rfl) SetL.eq (fil_scal rfl Tryz.sizeOf136 rfl rfl (Nat.le_of_ble_eq_true rfl) SetL.eq fil_nil)))))) ?_
      refine s_do rfl (d_allocA Tryz.zeroValue138) ?_
      rintro _ _ ⟨b9, rfl, rfl⟩
      refine s_do0 (d_storeAll Tryz.sizeOf138 rfl rfl rfl rfl rfl) ?_
      rintro _ _ rfl
      refine x_nil (n_then (x_seq (x_seq (x_region (s_val rfl (v_move rfl) (x_nil (n_then (x_block ?_))))))))
      refine x_loop (fun qs : List Nat => qs.length ≤ 3) (fun qs => [(4, pV b4), (9, pV b9), (35, .int .i64 qs.length)]) (fun qs => pt b9 (cob (bdV ⟨rb, cb, bm, vb, tb⟩ qs) 138) :: kH 6 (grp (qs.map fun q => pt q (qO true qs0))) :: pt b4 (cob [.pointer none, .pointer none, .pointer none, .pointer none, .pointer none, .pointer none, .pointer none, .pointer none, .bool false, .int .u32 0, .int .u32 0, .int .u32 0, .int .u32 0] 138) :: bdH ⟨rb, cb, bm, vb, tb⟩ i bt bs pv (pt pv (viO ps pm d) :: R)) (fun qs => 3 - qs.length) [] ?_ ?_ ?_ ?_
      · exact Nat.zero_le _
      · repeat (first | exact sub_nil | refine sub_cons rfl ?_)
      · refine Ent.trans (B := pt b9 (cob (bdV ⟨rb, cb, bm, vb, tb⟩ []) 138) :: pt b4 (cob [.pointer none, .pointer none, .pointer none, .pointer none, .pointer none, .pointer none, .pointer none, .pointer none, .bool false, .int .u32 0, .int .u32 0, .int .u32 0, .int .u32 0] 138) :: bdH ⟨rb, cb, bm, vb, tb⟩ i bt bs pv (pt pv (viO ps pm d) :: R)) ?_ ?_
        · rw [show bdV ⟨rb, cb, bm, vb, tb⟩ [] = [pV rb, pV cb, pV bm, .pointer none, .pointer none, .pointer none, pV vb, pV tb, .bool false, .int .u32 0, .int .u32 0, .int .u32 0, .int .u32 0] from rfl]
          exact inferInstance
        exact Ent.cons (ent_shut (A := []))
      · intro qs hq
        refine x_seq (x_region (s_val rfl (v_lss rfl rfl) (x_nil (n_then (x_seq ?_)))))
        refine x_if rfl ?_ ?_
        · intro c9
          refine x_skip (n_then (x_seq (x_block (x_seq (x_region (s_val rfl (v_move rfl) (s_val rfl (v_assign rfl) (x_nil (n_then ?_)))))))))
          have hq3 : qs.length < 3 := by omega
          refine x_region (s_val rfl (v_move rfl) (s_do rfl (d_call Tryz.call213 rfl (qNew_spec W0 _)) ?_))
          rintro _ B_ ⟨q, rfl, hB_⟩
          obtain rfl := hB_.symm
          refine s_val rfl (v_fieldAddr rfl Tryz.underlying138 rfl Tryz.sizeOf134 rfl (by first | exact Nat.zero_add _ | rfl)) ?_
          refine s_val rfl (v_idxArr Tryz.underlying134 Tryz.sizeOf133 rfl rfl rfl hq3 (by first | exact Nat.zero_add _ | rfl)) ?_
          refine s_do0 (d_store Tryz.sizeOf133 rfl rfl rfl (by rw [bd_len hq]; omega) (bd_set hq3)) ?_
          rintro _ _ rfl
          refine x_nil (n_block (n_then (x_region ?_)))
          refine s_val rfl (v_add rfl rfl (by first | exact w64 (by omega) | rfl)) ?_
          refine s_val rfl (v_move rfl) (x_nil (n_then ?_))
          refine inv_intro (qs ++ [q]) ?_ ?_ ?_ ?_
          · show (qs ++ [q]).length ≤ 3; simp; omega
          · show 3 - (qs ++ [q]).length < 3 - qs.length; simp; omega
          · rw [show ((qs ++ [q]).length : Int) = ((qs.length : Nat) : Int) + 1 by simp]
            repeat (first | exact sub_nil | refine sub_cons rfl ?_)
          · rw [List.map_append]
            exact Ent.cons grp_snoc
        · intro c9
          refine x_exit (e_then (e_then (e_block (n_then (x_seq ?_)))))
          have hq3 : qs.length = 3 := by omega
          obtain ⟨q0, q1, q2, rfl⟩ : ∃ q0 q1 q2, qs = [q0, q1, q2] := by
            match qs, hq3 with
            | [a, b, c], _ => exact ⟨a, b, c, rfl⟩
          refine x_region (s_val rfl (v_loadAll Tryz.isAgg138 Tryz.sizeOf138 rfl rfl) ?_)
          refine s_do0 (d_storeAll Tryz.sizeOf138 rfl rfl rfl rfl rfl) ?_
          rintro _ _ rfl
          refine s_val rfl (v_assign rfl) (x_nil (n_then (x_ret (x_done (.inl rfl) (.cons (r_all Tryz.isAgg138 Tryz.sizeOf138 rfl rfl) (.cons (r_tmp rfl) .nil)) ?_))))
          refine ⟨_, ⟨⟨rb, cb, bm, vb, tb⟩, bt, bs, q0, q1, q2, rfl, rfl⟩, ?_⟩
          rw [show [q0, q1, q2].map (fun q => pt q (qO true qs0)) = [pt q0 (qO true qs0), pt q1 (qO true qs0), pt q2 (qO true qs0)] from rfl]
          exact inferInstance
def rgX (r : Int × Int) (i : Int) : Int := if i = r.1 then 3 else if i = r.2 then 1 else 0
theorem gsRights_spec (W0 : World) (R : List HP) (r : Int × Int) (i : Int) :
    Spec Tryz.prog W0 205 [.agg (pairV r).toArray, .int .i64 i] R (fun v B => v = .int .i64 (rgX r i) ∧ B = R) := by
  refine spec_body Tryz.func205 Tryz.ntmps205 rfl rfl ?_
  refine x_seq (x_region (s_do rfl (d_boxA rfl) ?_))
  rintro _ _ ⟨b2, rfl, rfl⟩
  refine s_val rfl (v_assign rfl) (x_nil (n_then (x_seq (x_seq (x_region (s_val rfl (v_move rfl) (x_nil (n_then (x_block (x_seq (x_region ?_)))))))))))
  refine s_val rfl (v_fieldAddr rfl Tryz.underlying61 rfl Tryz.sizeOf3 rfl (by first | exact Nat.zero_add _ | rfl)) ?_
  refine s_val rfl (v_load Tryz.isAgg3 rfl (cell_own rfl)) ?_
  refine s_val rfl (v_eql rfl rfl) (s_val rfl (v_assign rfl) (x_nil (n_then ?_)))
  refine x_if rfl ?_ ?_
  · intro c2
    refine x_seq (x_region (s_val rfl (v_assign rfl) (x_nil (n_then (x_ret (r_block (r_then (x_done (.inl rfl) (.cons (r_tmp rfl) .nil) ?_))))))))
    rw [rgX, if_pos (by simpa using c2)]
    exact ⟨_, ⟨rfl, rfl⟩, inferInstance⟩
  · intro c2
    refine x_seq (x_region ?_)
    refine s_val rfl (v_fieldAddr rfl Tryz.underlying61 rfl Tryz.sizeOf3 rfl (by first | exact Nat.zero_add _ | rfl)) ?_
    refine s_val rfl (v_load Tryz.isAgg3 rfl (cell_own rfl)) ?_
    refine s_val rfl (v_eql rfl rfl) (s_val rfl (v_assign rfl) (x_nil (n_then ?_)))
    refine x_if rfl ?_ ?_
    · intro c4
      refine x_seq (x_region (s_val rfl (v_assign rfl) (x_nil (n_then (x_ret (r_block (r_then (x_done (.inl rfl) (.cons (r_tmp rfl) .nil) ?_))))))))
      rw [rgX, if_neg (by simpa using c2), if_pos (by simpa using c4)]
      exact ⟨_, ⟨rfl, rfl⟩, inferInstance⟩
    · intro c4
      refine x_skip (n_block (n_then (x_seq (x_region (s_val rfl (v_assign rfl) (x_nil (n_then (x_ret (x_done (.inl rfl) (.cons (r_tmp rfl) .nil) ?_)))))))))
      rw [rgX, if_neg (by simpa using c2), if_neg (by simpa using c4)]
      exact ⟨_, ⟨rfl, rfl⟩, inferInstance⟩
def nlA (c : Cfg) (k : Nat) : Int × Int := c.nl.getD k (0, 0)
def ringP (c : Cfg) (i : Int) : Nat → List Pl → List Pl
  | 0, pg => pg
  | k + 1, pg => if rgX (nlA c k) i = 0 then ringP c i k pg else setP (ringP c i k pg) ((8 + k : Nat) : Int) (rgF c k, rgX (nlA c k) i)
theorem ringP_ok {c : Cfg} {i : Int} {pg : List Pl} (h : Pgs pg) : ∀ k, Pgs (ringP c i k pg)
  | 0 => h
  | k + 1 => by
    rw [ringP]; split
    · exact ringP_ok h k
    · exact setP_ok (ringP_ok h k)
theorem gsRings_spec (W0 : World) (R : List HP) (c : Cfg) (h : CfK W0 c) (i : Int) (pm : Nat) (pg : List Pl) (hp : Pgs pg) (hn : c.nl.length ≤ 4) :
    Spec Tryz.prog W0 89 [.agg (cfgV c).toArray, .int .i64 i, pV pm] (pt pm (gmO pg) :: R) (fun v B => v = .tuple #[] ∧ B = pt pm (gmO (ringP c i c.nl.length pg)) :: R) := by
  refine spec_body Tryz.func89 Tryz.ntmps89 rfl rfl ?_
  refine x_seq (x_region (s_do rfl (d_boxA rfl) ?_))
  rintro _ _ ⟨b3, rfl, rfl⟩
  refine x_nil (n_then (x_seq (x_region ?_)))
  refine s_val rfl (v_fieldAddr rfl Tryz.underlying29 rfl Tryz.sizeOf26 rfl (by first | exact Nat.zero_add _ | rfl)) ?_
  refine s_val rfl (v_load Tryz.isAgg26 rfl (cell_own rfl)) ?_
  refine s_val rfl (v_len_slice Tryz.underlying26 rfl) (s_val rfl (v_move rfl) (x_nil (n_then (x_block ?_))))
  refine x_loop (fun k : Nat => k ≤ c.nl.length) (fun k => [(1, .int .i64 i), (2, pV pm), (3, pV b3), (10, .slice c.na c.nl.length c.nc), (11, .int .i64 (c.nl.length : Nat)), (12, .int .i64 k)]) (fun k => pt b3 (cfO c) :: pt pm (gmO (ringP c i k pg)) :: R) (fun k => c.nl.length - k) 0 ?_ ?_ ?_ ?_
  · exact Nat.zero_le _
  · repeat (first | exact sub_nil | refine sub_cons rfl ?_)
  · rw [show ringP c i 0 pg = pg from rfl]
    exact inferInstance
  · intro k hk
    refine x_seq (x_region (s_val rfl (v_lss rfl rfl) (x_nil (n_then (x_seq ?_)))))
    refine x_if rfl ?_ ?_
    · intro c2
      refine x_skip (n_then ?_)
      refine x_cut (fun _ : Unit => k < c.nl.length) (fun _ => [(1, .int .i64 i), (2, pV pm), (3, pV b3), (10, .slice c.na c.nl.length c.nc), (11, .int .i64 (c.nl.length : Nat)), (12, .int .i64 k)]) (fun _ => pt b3 (cfO c) :: pt pm (gmO (ringP c i (k + 1) pg)) :: R) ?_ ?_
      · skip
        refine x_block (x_seq ?_)
        have hk1 : k < c.nl.length := by omega
        obtain ⟨g, o, hga, hc⟩ := (h.ok.n []).at_ hk1
        obtain ⟨x, hx⟩ : ∃ x, c.nl[k] = x := ⟨_, rfl⟩
        rw [hx] at hc
        have hA : nlA c k = x := by simp [nlA, List.getD, hk1, hx]
        have hpk := ringP_ok (c := c) (i := i) hp k
        refine x_region (s_val rfl (v_move rfl) ?_)
        refine s_val rfl (v_idxA Tryz.underlying26 Tryz.sizeOf61 rfl hga rfl rfl hk1 (by first | exact Nat.zero_add _ | rfl)) ?_
        refine s_val rfl (v_loadAgg Tryz.isAgg61 Tryz.sizeOf61 rfl hc.weak rfl) ?_
        refine s_do rfl (d_allocA Tryz.zeroValue61) ?_
        rintro _ _ ⟨b7, rfl, rfl⟩
        refine s_val rfl (v_assign rfl) (s_do0 (d_storeAll Tryz.sizeOf61 rfl rfl rfl rfl rfl) ?_)
        rintro _ _ rfl
        refine x_nil (n_then (x_seq (x_region (s_val rfl (v_loadAll Tryz.isAgg61 Tryz.sizeOf61 rfl rfl) ?_))))
        refine s_val rfl (v_move rfl) (s_do rfl (d_call Tryz.call205 rfl (gsRights_spec W0 _ x i)) ?_)
        rintro _ B_ ⟨rfl, hB_⟩
        obtain rfl := hB_.symm
        refine s_val rfl (v_assign rfl) (x_nil (n_then (x_seq (x_region (s_val rfl (v_move rfl) (s_val rfl (v_neq rfl rfl) (x_nil (n_then ?_))))))))
        refine x_if rfl ?_ ?_
        · intro c5
          refine x_region (s_val rfl (v_move rfl) (s_val rfl (v_move rfl) ?_))
          refine s_val rfl (v_add rfl rfl (by rw [w64 (by omega)]; omega : IntKind.wrap .i64 (8 + (k : Int)) = ((8 + k : Nat) : Int))) ?_
          refine s_val rfl (v_loadAll Tryz.isAgg29 Tryz.sizeOf29 rfl rfl) ?_
          refine s_val rfl (v_move rfl) (s_do rfl (d_call Tryz.call206 rfl (cfRingFrame_spec W0 _ c h k)) ?_)
          rintro _ B_ ⟨rfl, hB_⟩
          obtain rfl := hB_.symm
          refine s_val rfl (v_move rfl) (s_val rfl (v_build Tryz.underlying238 Tryz.zeroValue238 (sized_cons Tryz.sizeOf3 (sized_cons Tryz.sizeOf3 sized_nil)) (fil_scal rfl Tryz.sizeOf3 rfl rfl (Nat.le_of_ble_eq_true rfl) SetL.eq (fil_scal rfl Tryz.sizeOf3 rfl rfl (Nat.le_of_ble_eq_true rfl) SetL.eq fil_nil))) ?_)
          refine s_do rfl (d_call1 Tryz.call204 rfl (gmSet_spec W0 _ pm (ringP c i k pg) hpk (8 + k : Nat) (rgF c k, rgX x i))) ?_
          rintro _ B_ ⟨rfl, hB_⟩
          obtain rfl := hB_.symm
          refine x_nil (n_block (n_then ?_))
          refine mid_intro () ?_ ?_ ?_
          · exact hk1
          · repeat (first | exact sub_nil | refine sub_cons rfl ?_)
          · rw [ringP, hA, if_neg (by simpa using c5)]
            exact inferInstance
        · intro c5
          refine x_skip (n_block (n_then ?_))
          refine mid_intro () ?_ ?_ ?_
          · exact hk1
          · repeat (first | exact sub_nil | refine sub_cons rfl ?_)
          · rw [ringP, hA, if_pos (by simpa using c5)]
            exact inferInstance
      · intro _ hk1
        refine x_region ?_
        refine s_val rfl (v_add rfl rfl (by first | exact w64 (by omega) | rfl)) ?_
        refine s_val rfl (v_move rfl) (x_nil (n_then ?_))
        refine inv_intro (k + 1) ?_ ?_ ?_ ?_
        · omega
        · omega
        · repeat (first | exact sub_nil | refine sub_cons rfl ?_)
        · exact inferInstance
    · intro c2
      refine x_exit (e_then (e_then (e_block (x_done (.inr rfl) .nil ?_))))
      obtain rfl : k = c.nl.length := by omega
      exact ⟨_, ⟨rfl, rfl⟩, inferInstance⟩
theorem cutW_cut {ws : List Nat} {n : Nat} (h : n ≤ 8) : cutW (cutW ws 8) n = cutW ws n := by
  rw [cutW, cutW, cutW, List.take_take, Nat.min_eq_left (by omega)]
abbrev pg0 : List Pl := List.replicate 12 (0, 0)
theorem pg0_ok : Pgs pg0 := ⟨rfl, fun n hn h => absurd (by
  have : n = 0 ∨ n = 1 ∨ n = 2 ∨ n = 3 ∨ n = 4 ∨ n = 5 ∨ n = 6 ∨ n = 7 ∨ n = 8 ∨ n = 9 ∨ n = 10 ∨ n = 11 := by omega
  rcases this with rfl | rfl | rfl | rfl | rfl | rfl | rfl | rfl | rfl | rfl | rfl | rfl <;> rfl) h⟩
theorem pg0_free : pgFree pg0 0 8 := fun i _ hi => by
  have : i = 0 ∨ i = 1 ∨ i = 2 ∨ i = 3 ∨ i = 4 ∨ i = 5 ∨ i = 6 ∨ i = 7 := by omega
  rcases this with rfl | rfl | rfl | rfl | rfl | rfl | rfl | rfl <;> decide
@[reducible] def gsV0 (x : Bd) (q0 q1 q2 : Nat) (c : Cfg) (i : Nat) (wv : Value) (pb pv bx tr : Nat) : List Value :=
  [pV x.r, pV x.c, pV x.m, pV q0, pV q1, pV q2, pV x.v, pV x.t, .bool false, .int .u32 0, .int .u32 0, .int .u32 0, .int .u32 0] ++ cfgV c ++ [.int .i64 i, wv, pV pb, pV pv, pV bx, pV tr, .int .i64 0]
theorem gs_build {S : World → Prop} {N : FSz} {e : Env} {o0 o1 o2 o3 o4 o5 o6 o7 : Operand} {x : Bd} {q0 q1 q2 i pb pv bx tr : Nat} {c : Cfg} {wv : Value} (hw : wv.oneCell' = true) (h0 : ev e o0 = some (.agg (bdL x q0 q1 q2).toArray)) (h1 : ev e o1 = some (.agg (cfgV c).toArray)) (h2 : ev e o2 = some (.int .i64 i)) (h3 : ev e o3 = some wv) (h4 : ev e o4 = some (pV pb)) (h5 : ev e o5 = some (pV pv)) (h6 : ev e o6 = some (pV bx)) (h7 : ev e o7 = some (pV tr)) :
    Val Tryz.prog S N e (.build 142 #[(0, o0), (1, o1), (2, o2), (3, o3), (4, o4), (5, o5), (6, o6), (7, o7)]) (.agg (gsV0 x q0 q1 q2 c i wv pb pv bx tr).toArray) :=
  v_build (l' := gsV0 x q0 q1 q2 c i wv pb pv bx tr) Tryz.underlying142 Tryz.zeroValue142 (sized_cons Tryz.sizeOf138 (sized_cons Tryz.sizeOf29 (sized_cons Tryz.sizeOf3 (sized_cons Tryz.sizeOf98 (sized_cons Tryz.sizeOf64 (sized_cons Tryz.sizeOf139 (sized_cons Tryz.sizeOf140 (sized_cons Tryz.sizeOf94 (sized_cons Tryz.sizeOf3 sized_nil)))))))))
    (fil_agg (l' := [pV x.r, pV x.c, pV x.m, pV q0, pV q1, pV q2, pV x.v, pV x.t, .bool false, .int .u32 0, .int .u32 0, .int .u32 0, .int .u32 0, .int .i64 0, .slice none 0 0, .slice none 0 0, .slice none 0 0, .slice none 0 0, .slice none 0 0, .int .i64 0, .int .i64 0, .int .i64 0, .slice none 0 0, .pointer none, .pointer none, .pointer none, .pointer none, .int .i64 0]) rfl Tryz.sizeOf138 h0 rfl (Nat.le_of_ble_eq_true rfl) rfl
    (fil_agg (l' := [pV x.r, pV x.c, pV x.m, pV q0, pV q1, pV q2, pV x.v, pV x.t, .bool false, .int .u32 0, .int .u32 0, .int .u32 0, .int .u32 0, .int .i64 c.cats, .slice c.ga c.gl.length c.gc, .slice c.ra c.rl.length c.rc, .slice c.pa c.pl.length c.pc, .slice c.na c.nl.length c.nc, .slice c.sa c.sl.length c.sc, .int .i64 c.gate, .int .i64 c.quota, .int .i64 0, .slice none 0 0, .pointer none, .pointer none, .pointer none, .pointer none, .int .i64 0]) rfl Tryz.sizeOf29 h1 rfl (Nat.le_of_ble_eq_true rfl) rfl
    (fil_scal (l' := [pV x.r, pV x.c, pV x.m, pV q0, pV q1, pV q2, pV x.v, pV x.t, .bool false, .int .u32 0, .int .u32 0, .int .u32 0, .int .u32 0, .int .i64 c.cats, .slice c.ga c.gl.length c.gc, .slice c.ra c.rl.length c.rc, .slice c.pa c.pl.length c.pc, .slice c.na c.nl.length c.nc, .slice c.sa c.sl.length c.sc, .int .i64 c.gate, .int .i64 c.quota, .int .i64 i, .slice none 0 0, .pointer none, .pointer none, .pointer none, .pointer none, .int .i64 0]) rfl Tryz.sizeOf3 h2 rfl (Nat.le_of_ble_eq_true rfl) rfl
    (fil_scal (l' := [pV x.r, pV x.c, pV x.m, pV q0, pV q1, pV q2, pV x.v, pV x.t, .bool false, .int .u32 0, .int .u32 0, .int .u32 0, .int .u32 0, .int .i64 c.cats, .slice c.ga c.gl.length c.gc, .slice c.ra c.rl.length c.rc, .slice c.pa c.pl.length c.pc, .slice c.na c.nl.length c.nc, .slice c.sa c.sl.length c.sc, .int .i64 c.gate, .int .i64 c.quota, .int .i64 i, wv, .pointer none, .pointer none, .pointer none, .pointer none, .int .i64 0]) rfl Tryz.sizeOf98 h3 hw (Nat.le_of_ble_eq_true rfl) rfl
    (fil_scal (l' := [pV x.r, pV x.c, pV x.m, pV q0, pV q1, pV q2, pV x.v, pV x.t, .bool false, .int .u32 0, .int .u32 0, .int .u32 0, .int .u32 0, .int .i64 c.cats, .slice c.ga c.gl.length c.gc, .slice c.ra c.rl.length c.rc, .slice c.pa c.pl.length c.pc, .slice c.na c.nl.length c.nc, .slice c.sa c.sl.length c.sc, .int .i64 c.gate, .int .i64 c.quota, .int .i64 i, wv, pV pb, .pointer none, .pointer none, .pointer none, .int .i64 0]) rfl Tryz.sizeOf64 h4 rfl (Nat.le_of_ble_eq_true rfl) rfl
    (fil_scal (l' := [pV x.r, pV x.c, pV x.m, pV q0, pV q1, pV q2, pV x.v, pV x.t, .bool false, .int .u32 0, .int .u32 0, .int .u32 0, .int .u32 0, .int .i64 c.cats, .slice c.ga c.gl.length c.gc, .slice c.ra c.rl.length c.rc, .slice c.pa c.pl.length c.pc, .slice c.na c.nl.length c.nc, .slice c.sa c.sl.length c.sc, .int .i64 c.gate, .int .i64 c.quota, .int .i64 i, wv, pV pb, pV pv, .pointer none, .pointer none, .int .i64 0]) rfl Tryz.sizeOf139 h5 rfl (Nat.le_of_ble_eq_true rfl) rfl
    (fil_scal (l' := [pV x.r, pV x.c, pV x.m, pV q0, pV q1, pV q2, pV x.v, pV x.t, .bool false, .int .u32 0, .int .u32 0, .int .u32 0, .int .u32 0, .int .i64 c.cats, .slice c.ga c.gl.length c.gc, .slice c.ra c.rl.length c.rc, .slice c.pa c.pl.length c.pc, .slice c.na c.nl.length c.nc, .slice c.sa c.sl.length c.sc, .int .i64 c.gate, .int .i64 c.quota, .int .i64 i, wv, pV pb, pV pv, pV bx, .pointer none, .int .i64 0]) rfl Tryz.sizeOf140 h6 rfl (Nat.le_of_ble_eq_true rfl) rfl
    (fil_scal (l' := [pV x.r, pV x.c, pV x.m, pV q0, pV q1, pV q2, pV x.v, pV x.t, .bool false, .int .u32 0, .int .u32 0, .int .u32 0, .int .u32 0, .int .i64 c.cats, .slice c.ga c.gl.length c.gc, .slice c.ra c.rl.length c.rc, .slice c.pa c.pl.length c.pc, .slice c.na c.nl.length c.nc, .slice c.sa c.sl.length c.sc, .int .i64 c.gate, .int .i64 c.quota, .int .i64 i, wv, pV pb, pV pv, pV bx, pV tr, .int .i64 0]) rfl Tryz.sizeOf94 h7 rfl (Nat.le_of_ble_eq_true rfl) rfl
    fil_nil))))))))
def laid (c : Cfg) (i : Nat) (ws : List Nat) (fr : List Frm) (po : Po) : Im := layI i (cutW ws (glA c i).2.1.toNat) (glA c i).2.1.toNat ⟨fr, po, pg0⟩
theorem gsNew_spec (W0 : World) (R : List HP) (c : Cfg) (h : CfK W0 c) (hr : rt c = true) (i : Nat) (hi : i < c.gl.length) (ps pb : Nat) (fr : List Frm) (po : Po) (hF : Frs fr) (hP : PoOk po) (hl : po.length = fr.length) (h0 : 0 < fr.length) (hfre : (glA c i).2.1 ≤ ((fre po i).length : Int))
    (a : Option Addr) (cap : Nat) (ws : List Nat) (hs : ∀ A, SlA (OwnP W0 A) a 1 wV1 ws) (hb : ∀ y ∈ ws, y < 4294967296) (hn : ws.length < 9223372036854775808) :
    Spec Tryz.prog W0 33 [.agg (cfgV c).toArray, .int .i64 i, pV ps, pV pb, .slice a ws.length cap] (poH pb (ps, po) :: stoH ps fr :: R)
      (fun v B => ∃ gb x bt bs q0 q1 q2 wg pv pm bx tr, v = .tuple #[pV gb, .int .i64 0] ∧
        B = pt gb (cob (gsV0 x q0 q1 q2 c i (.slice (some ⟨wg, 0, none⟩) (cutW ws 8).length (cutW ws 8).length) pb pv bx tr) 142) :: bdH x i bt bs pv (kH 6 (grp [pt q0 (qO true qs0), pt q1 (qO true qs0), pt q2 (qO true qs0)]) :: pt pv (viO ps pm 0) :: pt bx bxO :: trH tr [] :: pt wg (cob ((cutW ws 8).map wV) 42) :: pt pm (gmO (ringP c i c.nl.length (laid c i ws fr po).pg)) :: poH pb (ps, (laid c i ws fr po).po) :: stoH ps (laid c i ws fr po).fr :: R)) := by
  have hck : ckE c = 0 := of_decide_eq_true hr
  have hR := cfR hr
  have hg4 := hR.g4
  have hgs := hR.gs i hi
  obtain ⟨g, o, hga, hc⟩ := (h.ok.g []).at_ hi
  obtain ⟨x, hx⟩ : ∃ x, c.gl[i] = x := ⟨_, rfl⟩
  have hA : glA c i = x := by simp [glA, List.getD, hi, hx]
  obtain ⟨n, hxn⟩ : ∃ n : Nat, x.2.1 = (n : Int) := ⟨x.2.1.toNat, by rw [hA] at hgs; omega⟩
  have hln : (glA c i).2.1.toNat = n := by rw [hA, hxn]; rfl
  have hlaid : laid c i ws fr po = layI i (cutW (cutW ws 8) n) n ⟨fr, po, pg0⟩ := by rw [laid, hln, cutW_cut (by rw [hA] at hgs; omega)]
  rw [hlaid]
  rw [hx] at hc
  rw [hA, hxn] at hgs hfre
  have hok : ImOk ⟨fr, po, pg0⟩ := ⟨hF, hP, pg0_ok, hl⟩
  have hok1 := layI_ok (who := i) (words := cutW (cutW ws 8) n) (n := n) (by omega) hok
  have hcl := cutW_len ws 8
  have hpo1 := hok1.len
  have hfr1 : 0 < (layI i (cutW (cutW ws 8) n) n ⟨fr, po, pg0⟩).fr.length := by
    have : ∀ k, (layI i (cutW (cutW ws 8) n) k ⟨fr, po, pg0⟩).fr.length = fr.length := fun k => by
      induction k with
      | zero => rfl
      | succ k ih =>
        rw [layI, stepI]
        split
        · rw [(wrW_ok (layI_ok (by omega) hok).fr).2]; exact ih
        · exact ih
    rw [this]; exact h0
  refine spec_body Tryz.func33 Tryz.ntmps33 rfl rfl ?_
  refine x_seq (x_region (s_do rfl (d_boxA rfl) ?_))
  rintro _ _ ⟨b5, rfl, rfl⟩
  refine s_val rfl (v_assign rfl) (s_val rfl (v_assign rfl) (x_nil (n_then (x_seq (x_seq (x_region (s_val rfl (v_loadAll Tryz.isAgg29 Tryz.sizeOf29 rfl rfl) ?_)))))))
  refine s_do rfl (d_call Tryz.call45 rfl (cfCheck_spec W0 _ c h.ok)) ?_
  rintro _ B_ ⟨at_, rfl, hB_⟩
  obtain rfl := hB_.symm
  rw [hck]
  refine s_val rfl (v_move rfl) (s_val rfl (v_extract rfl rfl) (s_val rfl (v_extract rfl rfl) (s_val rfl (v_assign rfl) (s_val rfl (v_assign rfl) (x_nil (n_then (x_seq (x_region (s_val rfl (v_move rfl) (s_val rfl (v_neq rfl rfl) (s_val rfl (v_move rfl) ?_)))))))))))
  refine s_or rfl rfl rfl ?_ ?_
  · intro g2_3
    exact absurd g2_3 (by decide)
  · intro g2_3
    refine s_val rfl (v_move rfl) (s_yes rfl rfl (s_val rfl (v_lss rfl rfl) (s_val rfl (v_pick_f rfl rfl) (s_val rfl (v_move rfl) ?_))))
    refine s_or rfl rfl rfl ?_ ?_
    · intro g2_7
      omega
    · intro g2_7
      refine s_val rfl (v_move rfl) (s_yes rfl rfl ?_)
      refine s_val rfl (v_fieldAddr rfl Tryz.underlying29 rfl Tryz.sizeOf23 rfl (by first | exact Nat.zero_add _ | rfl)) ?_
      refine s_yes rfl rfl (s_val rfl (v_load Tryz.isAgg23 rfl (cell_own rfl)) ?_)
      refine s_yes rfl rfl (s_val rfl (v_len_slice Tryz.underlying23 rfl) (s_yes rfl rfl (s_val rfl (v_geq rfl rfl) (s_val rfl (v_pick_f rfl rfl) (x_nil (n_then ?_))))))
      refine x_if rfl ?_ ?_
      · intro c2
        omega
      · intro c2
        refine x_skip (n_then (x_seq (x_region (s_do rfl (d_call Tryz.call85 rfl (gmNew_spec W0 _)) ?_))))
        rintro _ B_ ⟨pm, rfl, hB_⟩
        obtain rfl := hB_.symm
        refine s_val rfl (v_assign rfl) (x_nil (n_then (x_seq (x_seq (x_region (s_val rfl (v_move rfl) (s_do rfl (d_call1 Tryz.call86 rfl (frLen_spec W0 _ ps fr)) ?_)))))))
        rintro _ B_ ⟨rfl, hB_⟩
        obtain rfl := hB_.symm
        refine s_val rfl (v_eql rfl rfl) (s_val rfl (v_move rfl) ?_)
        refine s_or rfl rfl rfl ?_ ?_
        · intro g5_4
          omega
        · intro g5_4
          refine s_val rfl (v_move rfl) (s_yes rfl rfl (s_val rfl (v_eql_ptr_nil Tryz.underlying64 rfl rfl) (s_val rfl (v_pick_f rfl rfl) (x_nil (n_then ?_)))))
          refine x_if rfl ?_ ?_
          · intro c5
            cases c5
          · intro c5
            refine x_skip (n_then (x_seq (x_region (s_val rfl (v_move rfl) ?_))))
            refine s_do rfl (d_call Tryz.call87 rfl (igCut_spec W0 _ a cap 8 ws (hs _) (by decide) hn)) ?_
            rintro _ B_ ⟨wg, rfl, hB_⟩
            obtain rfl := hB_.symm
            refine s_val rfl (v_assign rfl) (x_nil (n_then (x_seq (x_seq (x_region (s_val rfl (v_move rfl) (s_val rfl (v_move rfl) (s_val rfl (v_move rfl) (s_val rfl (v_move rfl) ?_)))))))))
            refine s_val rfl (v_fieldAddr rfl Tryz.underlying29 rfl Tryz.sizeOf23 rfl (by first | exact Nat.zero_add _ | rfl)) ?_
            refine s_val rfl (v_load Tryz.isAgg23 rfl (cell_own rfl)) ?_
            refine s_val rfl (v_move rfl) ?_
            refine s_val rfl (v_idxA Tryz.underlying23 Tryz.sizeOf85 rfl hga rfl rfl hi (by first | exact Nat.zero_add _ | rfl)) ?_
            refine s_val rfl (v_fieldAddr rfl Tryz.underlying85 rfl Tryz.sizeOf3 rfl (by first | exact Nat.zero_add _ | rfl)) ?_
            refine s_val rfl (v_load Tryz.isAgg3 rfl (hc.weak 1 _ (by rw [← hxn]; rfl : (gsV x)[1]? = some (.int .i64 (n : Int))))) ?_
            refine s_val rfl (v_move rfl) ?_
            refine s_do rfl (d_call3 Tryz.call88 rfl (imLay_spec W0 _ pb ps pm i n ⟨fr, po, pg0⟩ hok h0 (some ⟨wg, 0, none⟩) (cutW ws 8).length (cutW ws 8) (by omega) (by omega) (by omega) pg0_free (by show n ≤ (fre po i).length; omega) (by intro A hA; exact (sla_pt (b := wg) wV1_len (wV1_flat _).symm).weak (k := hA)) (fun y hy => hb y (List.mem_of_mem_take hy)) (by omega))) ?_
            rintro _ B_ ⟨rfl, hB_⟩
            obtain rfl := hB_.symm
            refine s_val rfl (v_assign rfl) (x_nil (n_then (x_seq (x_region (s_val rfl (v_move rfl) (s_val rfl (v_neq rfl rfl) (x_nil (n_then ?_))))))))
            refine x_if rfl ?_ ?_
            · intro c9
              exact absurd c9 (by decide)
            · intro c9
              refine x_skip (n_then (x_seq (x_region (s_val rfl (v_loadAll Tryz.isAgg29 Tryz.sizeOf29 rfl rfl) ?_))))
              refine s_val rfl (v_move rfl) (s_val rfl (v_move rfl) (s_do rfl (d_call1 Tryz.call89 rfl (gsRings_spec W0 _ c h i pm _ hok1.pg hR.nn)) ?_))
              rintro _ B_ ⟨rfl, hB_⟩
              obtain rfl := hB_.symm
              refine x_nil (n_then (x_seq (x_region (s_val rfl (v_move rfl) (s_val rfl (v_move rfl) (s_do rfl (d_call2 Tryz.call90 rfl (viNew_spec W0 _ ps pm _ _ (ringP_ok hok1.pg _) hfr1)) ?_))))))
              rintro _ B_ ⟨pv, rfl, hB_⟩
              obtain rfl := hB_.symm
              refine s_val rfl (v_move rfl) (s_val rfl (v_extract rfl rfl) (s_val rfl (v_extract rfl rfl) (s_val rfl (v_assign rfl) (s_val rfl (v_assign rfl) (x_nil (n_then (x_seq (x_seq (x_region (s_val rfl (v_move rfl) (s_val rfl (v_neq rfl rfl) (x_nil (n_then ?_)))))))))))))
              refine x_if rfl ?_ ?_
              · intro c13
                exact absurd c13 (by decide)
              · intro c13
                refine x_skip (n_then (x_seq (x_region (s_val rfl (v_move rfl) (s_val rfl (v_move rfl) ?_)))))
                refine s_do rfl (d_call1 Tryz.call91 rfl (gsFresh_spec W0 _ i pv ps pm 0 (by omega))) ?_
                rintro _ B_ ⟨x_, bt, bs, q0, q1, q2, rfl, hB_⟩
                obtain rfl := hB_.symm
                refine s_val rfl (v_move rfl) (s_val rfl (v_extract rfl rfl) (s_val rfl (v_extract rfl rfl) (s_do rfl (d_allocA Tryz.zeroValue138) ?_)))
                rintro _ _ ⟨b19, rfl, rfl⟩
                refine s_do0 (d_storeAll Tryz.sizeOf138 rfl rfl rfl rfl rfl) ?_
                rintro _ _ rfl
                refine s_val rfl (v_assign rfl) (x_nil (n_then (x_seq (x_seq (x_region (s_val rfl (v_move rfl) (s_val rfl (v_neq rfl rfl) (x_nil (n_then ?_)))))))))
                refine x_if rfl ?_ ?_
                · intro c16
                  exact absurd c16 (by decide)
                · intro c16
                  refine x_skip (n_then (x_seq ?_))
                  refine x_draw [(b19, 0, _), (b5, 0, _)] 12 mixed rfl (sc_own (sc_own sc_end)) (fun hS => ?_)
                  refine d_take 0 rfl rfl (by kernel_rfl) (by kernel_rfl) (by kernel_rfl) rfl hS (v_loadAgg Tryz.isAgg138 Tryz.sizeOf138 rfl (by first | exact cells_sc (k := 0) rfl | exact cells_sc (k := 1) rfl) rfl) ?_
                  refine d_take 1 rfl rfl (by kernel_rfl) (by kernel_rfl) (by kernel_rfl) rfl hS (v_loadAgg Tryz.isAgg29 Tryz.sizeOf29 rfl (by first | exact cells_sc (k := 0) rfl | exact cells_sc (k := 1) rfl) rfl) ?_
                  refine d_take 2 rfl rfl (by kernel_rfl) (by kernel_rfl) (by kernel_rfl) rfl hS (v_move rfl) ?_
                  refine d_take 3 rfl rfl (by kernel_rfl) (by kernel_rfl) (by kernel_rfl) rfl hS (v_move rfl) ?_
                  refine d_take 4 rfl rfl (by kernel_rfl) (by kernel_rfl) (by kernel_rfl) rfl hS (v_move rfl) ?_
                  refine d_take 5 rfl rfl (by kernel_rfl) (by kernel_rfl) (by kernel_rfl) rfl hS (v_move rfl) ?_
                  refine d_one 6 (by kernel_rfl) rfl rfl (d_call Tryz.call92 rfl (bxNew_spec W0 _)) rfl ?_; clear hS
                  rintro _ B_ ⟨bx, rfl, hB_⟩
                  obtain rfl := hB_.symm
                  refine ⟨(sc_own (sc_own sc_end)), fun hS => ?_⟩
                  refine d_one 7 (by kernel_rfl) rfl rfl (d_call Tryz.call93 rfl (trNew_spec W0 _)) rfl ?_; clear hS
                  rintro _ B_ ⟨tr, rfl, hB_⟩
                  obtain rfl := hB_.symm
                  refine ⟨(sc_own (sc_own sc_end)), fun hS => ?_⟩
                  refine d_take 8 rfl rfl (by kernel_rfl) (by kernel_rfl) (by kernel_rfl) rfl hS (gs_build rfl rfl rfl rfl rfl rfl rfl rfl rfl) ?_
                  refine d_one 9 (by kernel_rfl) rfl rfl (d_boxA rfl) rfl ?_; clear hS
                  rintro _ _ ⟨gb, rfl, rfl⟩
                  refine ⟨(sc_own (sc_own sc_end)), fun hS => ?_⟩
                  refine d_take 10 rfl rfl (by kernel_rfl) (by kernel_rfl) (by kernel_rfl) rfl hS (v_assign rfl) ?_
                  refine d_take 11 rfl rfl (by kernel_rfl) (by kernel_rfl) (by kernel_rfl) rfl hS (v_assign rfl) ?_
                  refine d_done (by kernel_rfl) ?_; clear hS
                  refine n_then (x_ret (x_done (.inl rfl) (.cons (r_tmp rfl) (.cons (r_tmp rfl) .nil)) ?_))
                  refine ⟨_, ⟨gb, x_, bt, bs, q0, q1, q2, wg, pv, pm, bx, tr, rfl, rfl⟩, inferInstance⟩
end Go.Proofs.YtnidndllknffgaaGreat
namespace Go.Proofs.YtnidndllknffgaaGreat
open Go.RowKit
set_option linter.unusedSimpArgs false
set_option linter.unusedVariables false
set_option maxRecDepth 20000
theorem setR_low : ∀ (vs l : List Value) (i j : Nat), j < i → (setR l i vs)[j]? = l[j]?
  | [], l, i, j, h => rfl
  | v :: vs, l, i, j, h => by
    rw [setR, setR_low vs _ _ _ (by omega), List.getElem?_set_ne (by omega)]
theorem setR_len12 : ∀ (vs l : List Value) (i : Nat), (setR l i vs).length = l.length
  | [], l, i => rfl
  | v :: vs, l, i => by rw [setR, setR_len12 vs, List.length_set]
structure RgC (i : Nat) (pv : Nat) (cs : List Value) : Prop where
  len : cs.length = 48
  ci : cs[8]? = some (.int .i64 i)
  cv : cs[13]? = some (pV pv)
theorem RgC.set {i pv : Nat} {cs : List Value} (h : RgC i pv cs) {k : Nat} {v : Value} (h1 : k ≠ 8) (h2 : k ≠ 13) : RgC i pv (cs.set k v) :=
  ⟨by rw [List.length_set]; exact h.len, by rw [List.getElem?_set_ne h1]; exact h.ci, by rw [List.getElem?_set_ne h2]; exact h.cv⟩
theorem RgC.setR {i pv : Nat} {cs : List Value} (h : RgC i pv cs) {k : Nat} {vs : List Value} (h1 : 13 < k) : RgC i pv (setR cs k vs) :=
  ⟨by rw [setR_len12]; exact h.len, by rw [setR_low _ _ _ _ (by omega)]; exact h.ci, by rw [setR_low _ _ _ _ (by omega)]; exact h.cv⟩
section
variable {W0 : World} {N : FSz} {K : Act → World → Prop} {e : Env} {A R : List HP} {b : Nat} {l : List Value} {T : TypeId}
theorem run_cs [hk : Tk pt b A (cob l T) R] (p : List Value → Prop) (h : p l) (k : ∀ cs, p cs → Run W0 N K e (pt b (cob cs T) :: R)) : Run W0 N K e A := run_tk (r := pt) (b := b) (k l h)
end
theorem rcsReset_spec (W0 : World) (R : List HP) (b i : Nat) : Spec Tryz.prog W0 311 [pV b] (pt b (cob [.int .u32 0, .int .u32 0, .int .u32 0, .int .u32 0, .int .u32 0, .int .u32 0, .int .u32 0, .int .i64 i] 474) :: R)
    (fun v B => v = .tuple #[] ∧ B = pt b (cob [.int .u32 0, .int .u32 0, .int .u32 0, .int .u32 0, .int .u32 0, .int .u32 4, .int .u32 0, .int .i64 i] 474) :: R) := by
  refine spec_body Tryz.func311 Tryz.ntmps311 rfl rfl ?_
  refine x_seq (x_region (s_val rfl (v_move rfl) (s_val rfl (v_build0 Tryz.underlying456 Tryz.sizeOf42 Tryz.zeroValue456 rfl) ?_)))
  refine s_val rfl (v_nilCheck rfl) ?_
  refine s_val rfl (v_fieldAddr rfl Tryz.underlying474 rfl Tryz.sizeOf456 rfl (by first | exact Nat.zero_add _ | rfl)) ?_
  refine s_do0 (d_storeAgg Tryz.sizeOf456 rfl rfl rfl rfl (Nat.le_of_ble_eq_true rfl) SetRL.eq) ?_
  rintro _ _ rfl
  refine x_nil (n_then (x_region (s_val rfl (v_move rfl) (s_val rfl (v_nilCheck rfl) ?_))))
  refine s_val rfl (v_fieldAddr rfl Tryz.underlying474 rfl Tryz.sizeOf456 rfl (by first | exact Nat.zero_add _ | rfl)) ?_
  refine s_val rfl (v_idxArr Tryz.underlying456 Tryz.sizeOf42 rfl rfl rfl (by decide) (by first | exact Nat.zero_add _ | rfl)) ?_
  refine s_do0 (d_store Tryz.sizeOf42 rfl rfl rfl (Nat.le_of_ble_eq_true rfl) SetL.eq) ?_
  rintro _ _ rfl
  refine x_nil (x_done (.inr rfl) .nil ?_)
  exact ⟨_, ⟨rfl, rfl⟩, inferInstance⟩
theorem rcsNew_spec (W0 : World) (R : List HP) (i : Nat) (hi : i < 4) : Spec Tryz.prog W0 215 [.int .i64 i] R (fun v B => ∃ b, v = .tuple #[pV b, .int .i64 0] ∧ B = pt b (cob [.int .u32 0, .int .u32 0, .int .u32 0, .int .u32 0, .int .u32 0, .int .u32 4, .int .u32 0, .int .i64 i] 474) :: R) := by
  refine spec_body Tryz.func215 Tryz.ntmps215 rfl rfl ?_
  refine x_seq (x_region (s_val rfl (v_assign rfl) (s_val rfl (v_assign rfl) (x_nil (n_then (x_seq (x_seq (x_region (s_val rfl (v_move rfl) (s_val rfl (v_lss rfl rfl) (s_val rfl (v_move rfl) ?_)))))))))))
  refine s_or rfl rfl rfl ?_ ?_
  · intro g1_3
    omega
  · intro g1_3
    refine s_val rfl (v_move rfl) (s_yes rfl rfl (s_val rfl (v_geq rfl rfl) (s_val rfl (v_pick_f rfl rfl) (x_nil (n_then ?_)))))
    refine x_if rfl ?_ ?_
    · intro c1
      omega
    · intro c1
      refine x_skip (n_then (x_seq (x_region (s_val rfl (v_move rfl) (s_val rfl (v_build Tryz.underlying474 Tryz.zeroValue474 (sized_cons Tryz.sizeOf456 (sized_cons Tryz.sizeOf3 sized_nil)) (fil_scal rfl Tryz.sizeOf3 rfl rfl (Nat.le_of_ble_eq_true rfl) SetL.eq fil_nil)) ?_)))))
      refine s_do rfl (d_boxA rfl) ?_
      rintro _ _ ⟨b, rfl, rfl⟩
      refine s_val rfl (v_assign rfl) (x_nil (n_then (x_seq (x_region (s_val rfl (v_move rfl) (s_do rfl (d_call1 Tryz.call311 rfl (rcsReset_spec W0 _ b i)) ?_))))))
      rintro _ B_ ⟨rfl, hB_⟩
      obtain rfl := hB_.symm
      refine x_nil (n_then (x_seq (x_region (s_val rfl (v_move rfl) (s_val rfl (v_assign rfl) (s_val rfl (v_assign rfl) (x_nil (n_then (x_ret (x_done (.inl rfl) (.cons (r_tmp rfl) (.cons (r_tmp rfl) .nil)) ?_))))))))))
      exact ⟨_, ⟨_, rfl, rfl⟩, inferInstance⟩
theorem rgBegin_spec (W0 : World) (R : List HP) (c : Cfg) (h : CfK W0 c) (hr : rt c = true) (i : Nat) (hi : i < c.gl.length) (gb pv pm pb qs : Nat) (fr : List Frm) (po : Po) (hF : Frs fr) (hP : PoOk po) (hl : po.length = fr.length) (h0 : 0 < fr.length) (hfre : (glA c i).2.1 ≤ ((fre po i).length : Int))
    (a : Option Addr) (cap : Nat) (ws : List Nat) (hs : ∀ A, SlA (OwnP W0 A) a 1 wV1 ws) (hb : ∀ y ∈ ws, y < 4294967296) (hn : ws.length < 9223372036854775808) (hcap : ws.length ≤ cap)
    (cs : List Value) (hc : RgC i pv cs) (h1 : cs[1]? = some (.slice c.ga c.gl.length c.gc)) (h9 : cs[9]? = some (.slice a ws.length cap)) (h10 : cs[10]? = some (pV pb)) :
    Spec Tryz.prog W0 95 [pV gb] (pt gb (cob cs 234) :: pt pv (rvO qs pm 0) :: rpoH pb (qs, po) :: rstoH qs fr :: pt pm (rgO pg0) :: R)
      (fun v B => v = .int .i64 0 ∧ ∃ cs', RgC i pv cs' ∧ B = pt gb (cob cs' 234) :: pt pv (rvO qs pm 0) :: rpoH pb (qs, (laid c i ws fr po).po) :: rstoH qs (laid c i ws fr po).fr :: pt pm (rgO (laid c i ws fr po).pg) :: R) := by
  have hR := cfR hr
  have hg4 := hR.g4
  have hgs := hR.gs i hi
  obtain ⟨g, o, hga, hcc⟩ := (h.ok.g []).at_ hi
  obtain ⟨x, hx⟩ : ∃ x, c.gl[i] = x := ⟨_, rfl⟩
  have hA : glA c i = x := by simp [glA, List.getD, hi, hx]
  obtain ⟨n, hxn⟩ : ∃ n : Nat, x.2.1 = (n : Int) := ⟨x.2.1.toNat, by rw [hA] at hgs; omega⟩
  have hln : (glA c i).2.1.toNat = n := by rw [hA, hxn]; rfl
  have hlaid : laid c i ws fr po = layI i (cutW ws n) n ⟨fr, po, pg0⟩ := by rw [laid, hln]
  rw [hlaid]
  rw [hx] at hcc
  rw [hA, hxn] at hgs hfre
  have hok : ImOk ⟨fr, po, pg0⟩ := ⟨hF, hP, pg0_ok, hl⟩
  have hlen := hc.len
  refine spec_body Tryz.func95 Tryz.ntmps95 rfl rfl ?_
  refine x_seq (x_region (s_val rfl (v_assign rfl) (x_nil (n_then (x_seq ?_)))))
  refine x_draw [(gb, 0, cs), (pv, 0, _), (g, o + i * 3, gsV x)] 40 mixed rfl (sc_own (sc_own (sc_cons hcc.weak sc_end))) (fun hS => ?_)
  refine d_take 0 rfl rfl (by kernel_rfl) (by kernel_rfl) (by kernel_rfl) rfl hS (v_move rfl) ?_
  refine d_take 1 rfl rfl (by kernel_rfl) (by kernel_rfl) (by kernel_rfl) rfl hS (v_nilCheck rfl) ?_
  refine d_take 2 rfl rfl (by kernel_rfl) (by kernel_rfl) (by kernel_rfl) rfl hS (v_fieldAddr rfl Tryz.underlying234 rfl Tryz.sizeOf105 rfl (by first | exact Nat.zero_add _ | rfl)) ?_
  refine d_take 3 rfl rfl (by kernel_rfl) (by kernel_rfl) (by kernel_rfl) rfl hS (v_load Tryz.isAgg105 rfl (cell_sc0 (k := 0) rfl h10)) ?_
  refine d_take 4 rfl rfl (by kernel_rfl) (by kernel_rfl) (by kernel_rfl) rfl hS (v_move rfl) ?_
  refine d_take 5 rfl rfl (by kernel_rfl) (by kernel_rfl) (by kernel_rfl) rfl hS (v_nilCheck rfl) ?_
  refine d_take 6 rfl rfl (by kernel_rfl) (by kernel_rfl) (by kernel_rfl) rfl hS (v_fieldAddr rfl Tryz.underlying234 rfl Tryz.sizeOf223 rfl (by first | exact Nat.zero_add _ | rfl)) ?_
  refine d_take 7 rfl rfl (by kernel_rfl) (by kernel_rfl) (by kernel_rfl) rfl hS (v_load Tryz.isAgg223 rfl (cell_sc0 (k := 0) rfl hc.cv)) ?_
  refine d_take 8 rfl rfl (by kernel_rfl) (by kernel_rfl) (by kernel_rfl) rfl hS (v_nilCheck rfl) ?_
  refine d_take 9 rfl rfl (by kernel_rfl) (by kernel_rfl) (by kernel_rfl) rfl hS (v_fieldAddr rfl Tryz.underlying243 rfl Tryz.sizeOf104 rfl (by first | exact Nat.zero_add _ | rfl)) ?_
  refine d_take 10 rfl rfl (by kernel_rfl) (by kernel_rfl) (by kernel_rfl) rfl hS (v_load Tryz.isAgg104 rfl (cell_sc0 (k := 1) rfl rfl)) ?_
  refine d_take 11 rfl rfl (by kernel_rfl) (by kernel_rfl) (by kernel_rfl) rfl hS (v_move rfl) ?_
  refine d_take 12 rfl rfl (by kernel_rfl) (by kernel_rfl) (by kernel_rfl) rfl hS (v_nilCheck rfl) ?_
  refine d_take 13 rfl rfl (by kernel_rfl) (by kernel_rfl) (by kernel_rfl) rfl hS (v_fieldAddr rfl Tryz.underlying234 rfl Tryz.sizeOf223 rfl (by first | exact Nat.zero_add _ | rfl)) ?_
  refine d_take 14 rfl rfl (by kernel_rfl) (by kernel_rfl) (by kernel_rfl) rfl hS (v_load Tryz.isAgg223 rfl (cell_sc0 (k := 0) rfl hc.cv)) ?_
  refine d_take 15 rfl rfl (by kernel_rfl) (by kernel_rfl) (by kernel_rfl) rfl hS (v_nilCheck rfl) ?_
  refine d_take 16 rfl rfl (by kernel_rfl) (by kernel_rfl) (by kernel_rfl) rfl hS (v_fieldAddr rfl Tryz.underlying243 rfl Tryz.sizeOf235 rfl (by first | exact Nat.zero_add _ | rfl)) ?_
  refine d_take 17 rfl rfl (by kernel_rfl) (by kernel_rfl) (by kernel_rfl) rfl hS (v_load Tryz.isAgg235 rfl (cell_sc0 (k := 1) rfl rfl)) ?_
  refine d_take 18 rfl rfl (by kernel_rfl) (by kernel_rfl) (by kernel_rfl) rfl hS (v_move rfl) ?_
  refine d_take 19 rfl rfl (by kernel_rfl) (by kernel_rfl) (by kernel_rfl) rfl hS (v_nilCheck rfl) ?_
  refine d_take 20 rfl rfl (by kernel_rfl) (by kernel_rfl) (by kernel_rfl) rfl hS (v_fieldAddr rfl Tryz.underlying234 rfl Tryz.sizeOf3 rfl (by first | exact Nat.zero_add _ | rfl)) ?_
  refine d_take 21 rfl rfl (by kernel_rfl) (by kernel_rfl) (by kernel_rfl) rfl hS (v_load Tryz.isAgg3 rfl (cell_sc0 (k := 0) rfl hc.ci)) ?_
  refine d_take 22 rfl rfl (by kernel_rfl) (by kernel_rfl) (by kernel_rfl) rfl hS (v_move rfl) ?_
  refine d_take 23 rfl rfl (by kernel_rfl) (by kernel_rfl) (by kernel_rfl) rfl hS (v_nilCheck rfl) ?_
  refine d_take 24 rfl rfl (by kernel_rfl) (by kernel_rfl) (by kernel_rfl) rfl hS (v_fieldAddr rfl Tryz.underlying234 rfl Tryz.sizeOf29 rfl (by first | exact Nat.zero_add _ | rfl)) ?_
  refine d_take 25 rfl rfl (by kernel_rfl) (by kernel_rfl) (by kernel_rfl) rfl hS (v_fieldAddr rfl Tryz.underlying29 rfl Tryz.sizeOf23 rfl (by first | exact Nat.zero_add _ | rfl)) ?_
  refine d_take 26 rfl rfl (by kernel_rfl) (by kernel_rfl) (by kernel_rfl) rfl hS (v_load Tryz.isAgg23 rfl (cell_sc0 (k := 0) rfl h1)) ?_
  refine d_take 27 rfl rfl (by kernel_rfl) (by kernel_rfl) (by kernel_rfl) rfl hS (v_move rfl) ?_
  refine d_take 28 rfl rfl (by kernel_rfl) (by kernel_rfl) (by kernel_rfl) rfl hS (v_nilCheck rfl) ?_
  refine d_take 29 rfl rfl (by kernel_rfl) (by kernel_rfl) (by kernel_rfl) rfl hS (v_fieldAddr rfl Tryz.underlying234 rfl Tryz.sizeOf3 rfl (by first | exact Nat.zero_add _ | rfl)) ?_
  refine d_take 30 rfl rfl (by kernel_rfl) (by kernel_rfl) (by kernel_rfl) rfl hS (v_load Tryz.isAgg3 rfl (cell_sc0 (k := 0) rfl hc.ci)) ?_
  refine d_take 31 rfl rfl (by kernel_rfl) (by kernel_rfl) (by kernel_rfl) rfl hS (v_idxA Tryz.underlying23 Tryz.sizeOf85 rfl hga rfl rfl hi (by first | exact Nat.zero_add _ | rfl)) ?_
  refine d_take 32 rfl rfl (by kernel_rfl) (by kernel_rfl) (by kernel_rfl) rfl hS (v_fieldAddr rfl Tryz.underlying85 rfl Tryz.sizeOf3 rfl (by first | exact Nat.zero_add _ | rfl)) ?_
  refine d_take 33 rfl rfl (by kernel_rfl) (by kernel_rfl) (by kernel_rfl) rfl hS (v_load Tryz.isAgg3 rfl (cell_sc (k := 2) (j := 1) rfl (by rw [← hxn]; rfl : (gsV x)[1]? = some (.int .i64 (n : Int))))) ?_
  refine d_take 34 rfl rfl (by kernel_rfl) (by kernel_rfl) (by kernel_rfl) rfl hS (v_move rfl) ?_
  refine d_take 35 rfl rfl (by kernel_rfl) (by kernel_rfl) (by kernel_rfl) rfl hS (v_nilCheck rfl) ?_
  refine d_take 36 rfl rfl (by kernel_rfl) (by kernel_rfl) (by kernel_rfl) rfl hS (v_fieldAddr rfl Tryz.underlying234 rfl Tryz.sizeOf98 rfl (by first | exact Nat.zero_add _ | rfl)) ?_
  refine d_take 37 rfl rfl (by kernel_rfl) (by kernel_rfl) (by kernel_rfl) rfl hS (v_load Tryz.isAgg98 rfl (cell_sc0 (k := 0) rfl h9)) ?_
  refine d_one 38 (by kernel_rfl) rfl rfl (d_call3 Tryz.call214 rfl (riLay_spec W0 _ pb qs pm i n ⟨fr, po, pg0⟩ hok h0 a cap ws (by omega) (by omega) (by omega) pg0_free (by show n ≤ (fre po i).length; omega) (fun A _ => hs A) hb hn hcap)) rfl ?_; clear hS
  rintro _ B_ ⟨rfl, hB_⟩
  obtain rfl := hB_.symm
  refine ⟨(sc_own (sc_own (sc_cons hcc.weak sc_end))), fun hS => ?_⟩
  refine d_take 39 rfl rfl (by kernel_rfl) (by kernel_rfl) (by kernel_rfl) rfl hS (v_assign rfl) ?_
  refine d_done (by kernel_rfl) ?_; clear hS
  refine n_then (x_seq (x_seq (x_region (s_val rfl (v_move rfl) (s_val rfl (v_neq rfl rfl) (x_nil (n_then ?_)))))))
  refine x_if rfl ?_ ?_
  · intro c2
    exact absurd c2 (by decide)
  · intro c2
    refine x_skip (n_then (x_seq (x_region (s_val rfl (v_move rfl) (s_val rfl (v_build Tryz.underlying380 Tryz.zeroValue380 (sized_cons Tryz.sizeOf58 (sized_cons Tryz.sizeOf42 sized_nil)) fil_nil) ?_)))))
    refine s_do rfl (d_boxA rfl) ?_
    rintro _ _ ⟨b1, rfl, rfl⟩
    refine s_val rfl (v_nilCheck rfl) ?_
    refine s_val rfl (v_fieldAddr rfl Tryz.underlying234 rfl Tryz.sizeOf221 rfl (by first | exact Nat.zero_add _ | rfl)) ?_
    refine s_do0 (d_store Tryz.sizeOf221 rfl rfl rfl (by rw [hlen]; decide) rfl) ?_
    rintro _ _ rfl
    refine x_nil (n_then (x_seq ?_))
    refine run_cs (b := gb) (RgC i pv) (hc.set (by decide) (by decide)) fun cs2 hc2 => ?_
    refine x_region (s_val rfl (v_move rfl) (s_val rfl (v_nilCheck rfl) ?_))
    refine s_val rfl (v_fieldAddr rfl Tryz.underlying234 rfl Tryz.sizeOf3 rfl (by first | exact Nat.zero_add _ | rfl)) ?_
    refine s_val rfl (v_load Tryz.isAgg3 rfl (cell_own hc2.ci)) ?_
    refine s_do rfl (d_call Tryz.call215 rfl (rcsNew_spec W0 _ i (by omega))) ?_
    rintro _ B_ ⟨cb, rfl, hB_⟩
    obtain rfl := hB_.symm
    refine s_val rfl (v_move rfl) (s_val rfl (v_extract rfl rfl) (s_val rfl (v_extract rfl rfl) (s_val rfl (v_assign rfl) (s_val rfl (v_assign rfl) (x_nil (n_then (x_seq (x_region (s_val rfl (v_move rfl) (s_val rfl (v_move rfl) (s_val rfl (v_nilCheck rfl) ?_)))))))))))
    refine s_val rfl (v_fieldAddr rfl Tryz.underlying234 rfl Tryz.sizeOf222 rfl (by first | exact Nat.zero_add _ | rfl)) ?_
    refine s_do0 (d_store Tryz.sizeOf222 rfl rfl rfl (by rw [hc2.len]; decide) rfl) ?_
    rintro _ _ rfl
    refine x_nil (n_then (x_seq ?_))
    refine run_cs (b := gb) (RgC i pv) (hc2.set (by decide) (by decide)) fun cs3 hc3 => ?_
    refine x_region (s_val rfl (v_move rfl) (s_val rfl (v_build0 Tryz.underlying230 Tryz.sizeOf229 Tryz.zeroValue230 rfl) ?_))
    refine s_val rfl (v_nilCheck rfl) ?_
    refine s_val rfl (v_fieldAddr rfl Tryz.underlying234 rfl Tryz.sizeOf230 rfl (by first | exact Nat.zero_add _ | rfl)) ?_
    refine s_do0 (d_storeAgg Tryz.sizeOf230 rfl rfl rfl rfl (by rw [hc3.len]; decide) rfl) ?_
    rintro _ _ rfl
    refine x_nil (n_then (x_seq ?_))
    refine run_cs (b := gb) (RgC i pv) (hc3.setR (by decide)) fun cs4 hc4 => ?_
    refine x_region (s_val rfl (v_move rfl) (s_val rfl (v_build Tryz.underlying385 Tryz.zeroValue385 (sized_cons Tryz.sizeOf37 (sized_cons Tryz.sizeOf383 (sized_cons Tryz.sizeOf331 sized_nil))) fil_nil) ?_))
    refine s_do rfl (d_boxA rfl) ?_
    rintro _ _ ⟨b2, rfl, rfl⟩
    refine s_val rfl (v_nilCheck rfl) ?_
    refine s_val rfl (v_fieldAddr rfl Tryz.underlying234 rfl Tryz.sizeOf231 rfl (by first | exact Nat.zero_add _ | rfl)) ?_
    refine s_do0 (d_store Tryz.sizeOf231 rfl rfl rfl (by rw [hc4.len]; decide) rfl) ?_
    rintro _ _ rfl
    refine x_nil (n_then (x_seq ?_))
    refine run_cs (b := gb) (RgC i pv) (hc4.set (by decide) (by decide)) fun cs5 hc5 => ?_
    refine x_region (s_val rfl (v_move rfl) (s_val rfl (v_build Tryz.underlying388 Tryz.zeroValue388 (sized_cons Tryz.sizeOf386 sized_nil) fil_nil) ?_))
    refine s_do rfl (d_boxA rfl) ?_
    rintro _ _ ⟨b3, rfl, rfl⟩
    refine s_val rfl (v_nilCheck rfl) ?_
    refine s_val rfl (v_fieldAddr rfl Tryz.underlying234 rfl Tryz.sizeOf232 rfl (by first | exact Nat.zero_add _ | rfl)) ?_
    refine s_do0 (d_store Tryz.sizeOf232 rfl rfl rfl (by rw [hc5.len]; decide) rfl) ?_
    rintro _ _ rfl
    refine x_nil (n_then (x_seq ?_))
    refine run_cs (b := gb) (RgC i pv) (hc5.set (by decide) (by decide)) fun cs6 hc6 => ?_
    refine x_region (s_val rfl (v_move rfl) (s_val rfl (v_nilCheck rfl) ?_))
    refine s_val rfl (v_fieldAddr rfl Tryz.underlying234 rfl Tryz.sizeOf4 rfl (by first | exact Nat.zero_add _ | rfl)) ?_
    refine s_do0 (d_store Tryz.sizeOf4 rfl rfl rfl (by rw [hc6.len]; decide) rfl) ?_
    rintro _ _ rfl
    refine x_nil (n_then (x_seq ?_))
    refine run_cs (b := gb) (RgC i pv) (hc6.set (by decide) (by decide)) fun cs7 hc7 => ?_
    refine x_region (s_val rfl (v_move rfl) (s_val rfl (v_build0 Tryz.underlying43 Tryz.sizeOf42 Tryz.zeroValue43 rfl) ?_))
    refine s_val rfl (v_nilCheck rfl) ?_
    refine s_val rfl (v_fieldAddr rfl Tryz.underlying234 rfl Tryz.sizeOf43 rfl (by first | exact Nat.zero_add _ | rfl)) ?_
    refine s_do0 (d_storeAgg Tryz.sizeOf43 rfl rfl rfl rfl (by rw [hc7.len]; decide) rfl) ?_
    rintro _ _ rfl
    refine x_nil (n_then (x_seq ?_))
    refine run_cs (b := gb) (RgC i pv) (hc7.setR (by decide)) fun cs8 hc8 => ?_
    refine x_region (s_val rfl (v_assign rfl) (x_nil (n_then (x_ret (x_done (.inl rfl) (.cons (r_tmp rfl) .nil) ?_)))))
    exact ⟨_, ⟨rfl, cs8, hc8, rfl⟩, inferInstance⟩
@[reducible] def rgV0 (c : Cfg) (i : Nat) (wv : Value) (pb bb : Nat) : List Value := [.int .i64 c.cats, .slice c.ga c.gl.length c.gc, .slice c.ra c.rl.length c.rc, .slice c.pa c.pl.length c.pc, .slice c.na c.nl.length c.nc, .slice c.sa c.sl.length c.sc, .int .i64 c.gate, .int .i64 c.quota, .int .i64 i, wv, pV pb, .pointer none, .pointer none, .pointer none, .int .u32 0, .int .u32 0, .int .u32 0, .int .i64 0, .bool false, .int .i64 0, .int .i64 0, .int .i64 0, .int .u32 0, .int .u32 0, .int .u32 0, .int .i64 0, .bool false, .int .i64 0, .int .i64 0, .int .i64 0, .int .u32 0, .int .u32 0, .int .u32 0, .int .i64 0, .bool false, .int .i64 0, .int .i64 0, .int .i64 0, .pointer none, .pointer none, pV bb, .slice none 0 0, .int .i64 0, .bool false, .int .u32 0, .int .u32 0, .int .u32 0, .int .u32 0]
theorem rg_build {S : World → Prop} {N : FSz} {e : Env} {o0 o1 o2 o3 o4 : Operand} {i pb bb : Nat} {c : Cfg} {wv : Value} (hw : wv.oneCell' = true) (h0 : ev e o0 = some (.agg (cfgV c).toArray)) (h1 : ev e o1 = some (.int .i64 i)) (h2 : ev e o2 = some wv) (h3 : ev e o3 = some (pV pb)) (h4 : ev e o4 = some (pV bb)) :
    Val Tryz.prog S N e (.build 234 #[(0, o0), (1, o1), (2, o2), (3, o3), (10, o4)]) (.agg (rgV0 c i wv pb bb).toArray) :=
  v_build (l' := rgV0 c i wv pb bb) Tryz.underlying234 Tryz.zeroValue234 (sized_cons Tryz.sizeOf29 (sized_cons Tryz.sizeOf3 (sized_cons Tryz.sizeOf98 (sized_cons Tryz.sizeOf105 (sized_cons Tryz.sizeOf221 (sized_cons Tryz.sizeOf222 (sized_cons Tryz.sizeOf223 (sized_cons Tryz.sizeOf230 (sized_cons Tryz.sizeOf231 (sized_cons Tryz.sizeOf232 (sized_cons Tryz.sizeOf217 (sized_cons Tryz.sizeOf182 (sized_cons Tryz.sizeOf3 (sized_cons Tryz.sizeOf4 (sized_cons Tryz.sizeOf43 sized_nil)))))))))))))))
    (fil_agg (l' := [.int .i64 c.cats, .slice c.ga c.gl.length c.gc, .slice c.ra c.rl.length c.rc, .slice c.pa c.pl.length c.pc, .slice c.na c.nl.length c.nc, .slice c.sa c.sl.length c.sc, .int .i64 c.gate, .int .i64 c.quota, .int .i64 0, .slice none 0 0, .pointer none, .pointer none, .pointer none, .pointer none, .int .u32 0, .int .u32 0, .int .u32 0, .int .i64 0, .bool false, .int .i64 0, .int .i64 0, .int .i64 0, .int .u32 0, .int .u32 0, .int .u32 0, .int .i64 0, .bool false, .int .i64 0, .int .i64 0, .int .i64 0, .int .u32 0, .int .u32 0, .int .u32 0, .int .i64 0, .bool false, .int .i64 0, .int .i64 0, .int .i64 0, .pointer none, .pointer none, .pointer none, .slice none 0 0, .int .i64 0, .bool false, .int .u32 0, .int .u32 0, .int .u32 0, .int .u32 0]) rfl Tryz.sizeOf29 h0 rfl (Nat.le_of_ble_eq_true rfl) rfl
    (fil_scal (l' := [.int .i64 c.cats, .slice c.ga c.gl.length c.gc, .slice c.ra c.rl.length c.rc, .slice c.pa c.pl.length c.pc, .slice c.na c.nl.length c.nc, .slice c.sa c.sl.length c.sc, .int .i64 c.gate, .int .i64 c.quota, .int .i64 i, .slice none 0 0, .pointer none, .pointer none, .pointer none, .pointer none, .int .u32 0, .int .u32 0, .int .u32 0, .int .i64 0, .bool false, .int .i64 0, .int .i64 0, .int .i64 0, .int .u32 0, .int .u32 0, .int .u32 0, .int .i64 0, .bool false, .int .i64 0, .int .i64 0, .int .i64 0, .int .u32 0, .int .u32 0, .int .u32 0, .int .i64 0, .bool false, .int .i64 0, .int .i64 0, .int .i64 0, .pointer none, .pointer none, .pointer none, .slice none 0 0, .int .i64 0, .bool false, .int .u32 0, .int .u32 0, .int .u32 0, .int .u32 0]) rfl Tryz.sizeOf3 h1 rfl (Nat.le_of_ble_eq_true rfl) rfl
    (fil_scal (l' := [.int .i64 c.cats, .slice c.ga c.gl.length c.gc, .slice c.ra c.rl.length c.rc, .slice c.pa c.pl.length c.pc, .slice c.na c.nl.length c.nc, .slice c.sa c.sl.length c.sc, .int .i64 c.gate, .int .i64 c.quota, .int .i64 i, wv, .pointer none, .pointer none, .pointer none, .pointer none, .int .u32 0, .int .u32 0, .int .u32 0, .int .i64 0, .bool false, .int .i64 0, .int .i64 0, .int .i64 0, .int .u32 0, .int .u32 0, .int .u32 0, .int .i64 0, .bool false, .int .i64 0, .int .i64 0, .int .i64 0, .int .u32 0, .int .u32 0, .int .u32 0, .int .i64 0, .bool false, .int .i64 0, .int .i64 0, .int .i64 0, .pointer none, .pointer none, .pointer none, .slice none 0 0, .int .i64 0, .bool false, .int .u32 0, .int .u32 0, .int .u32 0, .int .u32 0]) rfl Tryz.sizeOf98 h2 hw (Nat.le_of_ble_eq_true rfl) rfl
    (fil_scal (l' := [.int .i64 c.cats, .slice c.ga c.gl.length c.gc, .slice c.ra c.rl.length c.rc, .slice c.pa c.pl.length c.pc, .slice c.na c.nl.length c.nc, .slice c.sa c.sl.length c.sc, .int .i64 c.gate, .int .i64 c.quota, .int .i64 i, wv, pV pb, .pointer none, .pointer none, .pointer none, .int .u32 0, .int .u32 0, .int .u32 0, .int .i64 0, .bool false, .int .i64 0, .int .i64 0, .int .i64 0, .int .u32 0, .int .u32 0, .int .u32 0, .int .i64 0, .bool false, .int .i64 0, .int .i64 0, .int .i64 0, .int .u32 0, .int .u32 0, .int .u32 0, .int .i64 0, .bool false, .int .i64 0, .int .i64 0, .int .i64 0, .pointer none, .pointer none, .pointer none, .slice none 0 0, .int .i64 0, .bool false, .int .u32 0, .int .u32 0, .int .u32 0, .int .u32 0]) rfl Tryz.sizeOf105 h3 rfl (Nat.le_of_ble_eq_true rfl) rfl
    (fil_scal (l' := [.int .i64 c.cats, .slice c.ga c.gl.length c.gc, .slice c.ra c.rl.length c.rc, .slice c.pa c.pl.length c.pc, .slice c.na c.nl.length c.nc, .slice c.sa c.sl.length c.sc, .int .i64 c.gate, .int .i64 c.quota, .int .i64 i, wv, pV pb, .pointer none, .pointer none, .pointer none, .int .u32 0, .int .u32 0, .int .u32 0, .int .i64 0, .bool false, .int .i64 0, .int .i64 0, .int .i64 0, .int .u32 0, .int .u32 0, .int .u32 0, .int .i64 0, .bool false, .int .i64 0, .int .i64 0, .int .i64 0, .int .u32 0, .int .u32 0, .int .u32 0, .int .i64 0, .bool false, .int .i64 0, .int .i64 0, .int .i64 0, .pointer none, .pointer none, pV bb, .slice none 0 0, .int .i64 0, .bool false, .int .u32 0, .int .u32 0, .int .u32 0, .int .u32 0]) rfl Tryz.sizeOf217 h4 rfl (Nat.le_of_ble_eq_true rfl) rfl
    fil_nil)))))
theorem ent_rstoD {R : List HP} {qs c : Nat} {a : Option Addr} {fr : List Frm} {vs : List Value} (hv : vs.length = fr.length) : Ent (pt qs (cob [.slice a fr.length c] 193) :: osl 174 1 (.slice a fr.length c) vs :: ((vs.zip fr).map inH ++ R)) (rstoH qs fr :: R) := ent_rsto (vs := vs) hv rfl
theorem rgNew36_spec (W0 : World) (R : List HP) (c : Cfg) (h : CfK W0 c) (hr : rt c = true) (i : Nat) (hi : i < c.gl.length) (qs pb : Nat) (fr : List Frm) (po : Po) (hF : Frs fr) (hP : PoOk po) (hl : po.length = fr.length) (h0 : 0 < fr.length) (hfre : (glA c i).2.1 ≤ ((fre po i).length : Int))
    (a : Option Addr) (cap : Nat) (ws : List Nat) (hs : ∀ A, SlA (OwnP W0 A) a 1 wV1 ws) (hb : ∀ y ∈ ws, y < 4294967296) (hn : ws.length < 9223372036854775808) (hcap : ws.length ≤ cap) :
    Spec Tryz.prog W0 34 [.agg (cfgV c).toArray, .int .i64 i, pV qs, pV pb, .slice a ws.length cap] (rpoH pb (qs, po) :: rstoH qs fr :: R)
      (fun v B => ∃ gb, v = .tuple #[pV gb, .int .i64 0] ∧ B = rpoH pb (qs, (laid c i ws fr po).po) :: rstoH qs (laid c i ws fr po).fr :: R) := by
  have hR := cfR hr
  have hg4 := hR.g4
  have hnn := hR.nn
  have hok1 : ImOk (laid c i ws fr po) := layI_ok (by omega) ⟨hF, hP, pg0_ok, hl⟩
  refine spec_body Tryz.func34 Tryz.ntmps34 rfl rfl ?_
  refine x_seq (x_region (s_do rfl (d_boxA rfl) ?_))
  rintro _ _ ⟨b5, rfl, rfl⟩
  refine s_val rfl (v_assign rfl) (s_val rfl (v_assign rfl) (x_nil (n_then (x_seq (x_seq (x_region (s_val rfl (v_loadAll Tryz.isAgg29 Tryz.sizeOf29 rfl rfl) ?_)))))))
  refine s_do rfl (d_call Tryz.call94 rfl (rcRight_spec W0 _ c h.ok)) ?_
  rintro _ B_ ⟨rfl, hB_⟩
  obtain rfl := hB_.symm
  rw [hr]
  refine s_val rfl (v_not rfl) (s_val rfl (v_move rfl) ?_)
  refine s_or rfl rfl rfl ?_ ?_
  · intro g1_4
    exact absurd g1_4 (by decide)
  · intro g1_4
    refine s_val rfl (v_move rfl) (s_yes rfl rfl (s_val rfl (v_lss rfl rfl) (s_val rfl (v_pick_f rfl rfl) (s_val rfl (v_move rfl) ?_))))
    refine s_or rfl rfl rfl ?_ ?_
    · intro g1_8
      omega
    · intro g1_8
      refine s_val rfl (v_move rfl) (s_yes rfl rfl ?_)
      refine s_val rfl (v_fieldAddr rfl Tryz.underlying29 rfl Tryz.sizeOf23 rfl (by first | exact Nat.zero_add _ | rfl)) ?_
      refine s_yes rfl rfl (s_val rfl (v_load Tryz.isAgg23 rfl (cell_own rfl)) ?_)
      refine s_yes rfl rfl (s_val rfl (v_len_slice Tryz.underlying23 rfl) (s_yes rfl rfl (s_val rfl (v_geq rfl rfl) (s_val rfl (v_pick_f rfl rfl) (x_nil (n_then ?_))))))
      refine x_if rfl ?_ ?_
      · intro c1
        omega
      · intro c1
        refine x_skip (n_then (x_seq (x_seq ?_)))
        refine run_rsto (qs := qs) fun a2 c2 vs hv => ?_
        refine x_region (s_val rfl (v_move rfl) (s_val rfl (v_eql_ptr_nil Tryz.underlying104 rfl rfl) (s_val rfl (v_move rfl) ?_)))
        refine s_or rfl rfl rfl ?_ ?_
        · intro g3_3
          cases g3_3
        · intro g3_3
          refine s_val rfl (v_move rfl) (s_yes rfl rfl (s_val rfl (v_nilCheck rfl) (s_yes rfl rfl ?_)))
          refine s_val rfl (v_fieldAddr rfl Tryz.underlying193 rfl Tryz.sizeOf191 rfl (by first | exact Nat.zero_add _ | rfl)) ?_
          refine s_yes rfl rfl (s_val rfl (v_load Tryz.isAgg191 rfl (cell_own rfl)) ?_)
          refine s_yes rfl rfl (s_val rfl (v_len_slice Tryz.underlying191 rfl) (s_yes rfl rfl (s_val rfl (v_eql rfl rfl) (s_val rfl (v_pick_f rfl rfl) (s_val rfl (v_move rfl) ?_)))))
          refine s_or rfl rfl rfl ?_ ?_
          · intro g3_11
            omega
          · intro g3_11
            refine s_val rfl (v_move rfl) (s_yes rfl rfl (s_val rfl (v_eql_ptr_nil Tryz.underlying105 rfl rfl) (s_val rfl (v_pick_f rfl rfl) (x_nil (n_then ?_)))))
            refine x_if rfl ?_ ?_
            · intro c3
              cases c3
            · intro c3
              refine x_skip (n_then (x_seq (run_ent (ent_rstoD hv) ?_)))
              refine x_region (s_val rfl (v_loadAll Tryz.isAgg29 Tryz.sizeOf29 rfl rfl) ?_)
              refine s_val rfl (v_move rfl) (s_val rfl (v_move rfl) (s_val rfl (v_move rfl) (s_val rfl (v_build Tryz.underlying220 Tryz.zeroValue220 (sized_cons Tryz.sizeOf218 sized_nil) fil_nil) ?_)))
              refine s_do rfl (d_boxA rfl) ?_
              rintro _ _ ⟨bb, rfl, rfl⟩
              refine s_val rfl (rg_build rfl rfl rfl rfl rfl rfl) ?_
              refine s_do rfl (d_boxA rfl) ?_
              rintro _ _ ⟨gb, rfl, rfl⟩
              refine s_val rfl (v_assign rfl) (x_nil (n_then (x_seq (x_region (s_val rfl (v_move rfl) (s_val rfl (v_move rfl) (s_val rfl (v_build Tryz.underlying241 Tryz.zeroValue241 (sized_cons Tryz.sizeOf236 (sized_cons Tryz.sizeOf239 sized_nil)) fil_nil) ?_)))))))
              refine s_do rfl (d_boxA rfl) ?_
              rintro _ _ ⟨pm, rfl, rfl⟩
              refine s_val rfl (v_build Tryz.underlying243 Tryz.zeroValue243 (sized_cons Tryz.sizeOf104 (sized_cons Tryz.sizeOf235 (sized_cons Tryz.sizeOf236 sized_nil))) (fil_scal rfl Tryz.sizeOf104 rfl rfl (Nat.le_of_ble_eq_true rfl) SetL.eq (fil_scal rfl Tryz.sizeOf235 rfl rfl (Nat.le_of_ble_eq_true rfl) SetL.eq fil_nil))) ?_
              refine s_do rfl (d_boxA rfl) ?_
              rintro _ _ ⟨pv, rfl, rfl⟩
              refine s_val rfl (v_nilCheck rfl) ?_
              refine s_val rfl (v_fieldAddr rfl Tryz.underlying234 rfl Tryz.sizeOf223 rfl (by first | exact Nat.zero_add _ | rfl)) ?_
              refine s_do0 (d_store Tryz.sizeOf223 rfl rfl rfl (Nat.le_of_ble_eq_true rfl) SetL.eq) ?_
              rintro _ _ rfl
              refine x_nil (n_then (x_seq (run_pt (b := pm) (o' := rgO pg0) rfl ?_)))
              refine run_pt (b := pv) (o' := rvO qs pm 0) rfl ?_
              refine run_pt (b := gb) (o' := cob ((rgV0 c i (.slice a ws.length cap) pb bb).set 13 (pV pv)) 234) rfl ?_
              refine x_region (s_val rfl (v_move rfl) (s_do rfl (d_call5 Tryz.call95 rfl (rgBegin_spec W0 _ c h hr i hi gb pv pm pb qs fr po hF hP hl h0 hfre a cap ws hs hb hn hcap _ ⟨rfl, rfl, rfl⟩ rfl rfl rfl)) ?_))
              rintro _ _ ⟨rfl, cs, hcs, rfl⟩
              refine s_val rfl (v_assign rfl) (x_nil (n_then (x_seq (x_seq (x_region (s_val rfl (v_move rfl) (s_val rfl (v_neq rfl rfl) (x_nil (n_then ?_)))))))))
              refine x_if rfl ?_ ?_
              · intro c8
                exact absurd c8 (by decide)
              · intro c8
                refine x_skip (n_then (x_seq (x_seq (x_region (s_val rfl (v_assign rfl) (x_nil (n_then (x_block ?_))))))))
                refine x_loop (fun X : Nat × List Pl => X.1 ≤ c.nl.length ∧ Pgs X.2) (fun X => [(1, .int .i64 i), (5, pV b5), (12, pV gb), (14, .int .i64 X.1)]) (fun X => pt b5 (cfO c) :: pt gb (cob cs 234) :: pt pv (rvO qs pm 0) :: pt pm (rgO X.2) :: rpoH pb (qs, (laid c i ws fr po).po) :: rstoH qs (laid c i ws fr po).fr :: R) (fun X => c.nl.length - X.1) (0, (laid c i ws fr po).pg) ?_ ?_ ?_ ?_
                · exact ⟨Nat.zero_le _, hok1.pg⟩
                · repeat (first | exact sub_nil | refine sub_cons rfl ?_)
                · exact inferInstance
                · intro ⟨k, pg⟩ ⟨hk, hpg⟩
                  dsimp only at hk hpg ⊢
                  refine x_seq (x_seq (x_region (s_val rfl (v_move rfl) ?_)))
                  refine s_val rfl (v_fieldAddr rfl Tryz.underlying29 rfl Tryz.sizeOf26 rfl (by first | exact Nat.zero_add _ | rfl)) ?_
                  refine s_val rfl (v_load Tryz.isAgg26 rfl (cell_own rfl)) ?_
                  refine s_val rfl (v_len_slice Tryz.underlying26 rfl) (s_val rfl (v_lss rfl rfl) (x_nil (n_then ?_)))
                  refine x_if rfl ?_ ?_
                  · intro c11
                    refine x_skip (n_then ?_)
                    refine x_cut (fun pg3 : List Pl => Pgs pg3 ∧ k < c.nl.length) (fun _ => [(1, .int .i64 i), (5, pV b5), (12, pV gb), (14, .int .i64 k)]) (fun pg3 => pt b5 (cfO c) :: pt gb (cob cs 234) :: pt pv (rvO qs pm 0) :: pt pm (rgO pg3) :: rpoH pb (qs, (laid c i ws fr po).po) :: rstoH qs (laid c i ws fr po).fr :: R) ?_ ?_
                    · skip
                      refine x_block (x_seq ?_)
                      have hk1 : k < c.nl.length := by omega
                      obtain ⟨g, o, hga, hc⟩ := (h.ok.n []).at_ hk1
                      obtain ⟨x, hx⟩ : ∃ x, c.nl[k] = x := ⟨_, rfl⟩
                      rw [hx] at hc
                      refine x_region (s_val rfl (v_loadAll Tryz.isAgg29 Tryz.sizeOf29 rfl rfl) ?_)
                      refine s_val rfl (v_move rfl) ?_
                      refine s_do rfl (d_call Tryz.call96 rfl (rcRingFrame_spec W0 _ c h.ok hr k (by omega) (by omega))) ?_
                      rintro _ B_ ⟨rfl, hB_⟩
                      obtain rfl := hB_.symm
                      refine s_val rfl (v_assign rfl) (x_nil (n_then ?_))
                      refine x_cut (fun pg2 : List Pl => Pgs pg2 ∧ k < c.nl.length) (fun _ => [(1, .int .i64 i), (5, pV b5), (12, pV gb), (14, .int .i64 k), (15, .int .i64 (rgF c k))]) (fun pg2 => pt b5 (cfO c) :: pt gb (cob cs 234) :: pt pv (rvO qs pm 0) :: pt pm (rgO pg2) :: rpoH pb (qs, (laid c i ws fr po).po) :: rstoH qs (laid c i ws fr po).fr :: R) ?_ ?_
                      · skip
                        refine x_seq (x_region ?_)
                        refine s_val rfl (v_fieldAddr rfl Tryz.underlying29 rfl Tryz.sizeOf26 rfl (by first | exact Nat.zero_add _ | rfl)) ?_
                        refine s_val rfl (v_load Tryz.isAgg26 rfl (cell_own rfl)) ?_
                        refine s_val rfl (v_move rfl) ?_
                        refine s_val rfl (v_idxA Tryz.underlying26 Tryz.sizeOf61 rfl hga rfl rfl hk1 (by first | exact Nat.zero_add _ | rfl)) ?_
                        refine s_val rfl (v_fieldAddr rfl Tryz.underlying61 rfl Tryz.sizeOf3 rfl (by first | exact Nat.zero_add _ | rfl)) ?_
                        refine s_val rfl (v_load Tryz.isAgg3 rfl (hc.weak 0 _ rfl)) ?_
                        refine s_val rfl (v_move rfl) (s_val rfl (v_eql rfl rfl) (x_nil (n_then ?_)))
                        refine x_if rfl ?_ ?_
                        · intro c14
                          refine x_region (s_val rfl (v_move rfl) (s_val rfl (v_nilCheck rfl) ?_))
                          refine s_val rfl (v_fieldAddr rfl Tryz.underlying234 rfl Tryz.sizeOf223 rfl (by first | exact Nat.zero_add _ | rfl)) ?_
                          refine s_val rfl (v_load Tryz.isAgg223 rfl (cell_own hcs.cv)) ?_
                          refine s_val rfl (v_nilCheck rfl) ?_
                          refine s_val rfl (v_fieldAddr rfl Tryz.underlying243 rfl Tryz.sizeOf235 rfl (by first | exact Nat.zero_add _ | rfl)) ?_
                          refine s_val rfl (v_load Tryz.isAgg235 rfl (cell_own rfl)) ?_
                          refine s_val rfl (v_move rfl) ?_
                          refine s_val rfl (v_add rfl rfl (by rw [w64 (by omega)]; omega : IntKind.wrap .i64 (8 + (k : Int)) = ((8 + k : Nat) : Int))) ?_
                          refine s_val rfl (v_move rfl) (s_val rfl (v_build Tryz.underlying238 Tryz.zeroValue238 (sized_cons Tryz.sizeOf3 (sized_cons Tryz.sizeOf3 sized_nil)) (fil_scal rfl Tryz.sizeOf3 rfl rfl (Nat.le_of_ble_eq_true rfl) SetL.eq (fil_scal rfl Tryz.sizeOf3 rfl rfl (Nat.le_of_ble_eq_true rfl) SetL.eq fil_nil))) ?_)
                          refine s_do rfl (d_call1 Tryz.call97 rfl (rgSet_spec W0 _ pm pg hpg (8 + k : Nat) (rgF c k, 3))) ?_
                          rintro _ B_ ⟨rfl, hB_⟩
                          obtain rfl := hB_.symm
                          refine x_nil (n_then ?_)
                          refine mid_intro (setP pg ((8 + k : Nat) : Int) (rgF c k, 3)) ?_ ?_ ?_
                          · exact ⟨setP_ok hpg, hk1⟩
                          · repeat (first | exact sub_nil | refine sub_cons rfl ?_)
                          · exact inferInstance
                        · intro c14
                          refine x_skip (n_then ?_)
                          refine mid_intro pg ?_ ?_ ?_
                          · exact ⟨hpg, hk1⟩
                          · repeat (first | exact sub_nil | refine sub_cons rfl ?_)
                          · exact inferInstance
                      · intro pg2 ⟨hpg2, hk1⟩
                        refine x_seq ?_
                        obtain ⟨g, o, hga, hc⟩ := (h.ok.n []).at_ hk1
                        obtain ⟨x, hx⟩ : ∃ x, c.nl[k] = x := ⟨_, rfl⟩
                        rw [hx] at hc
                        refine x_region ?_
                        refine s_val rfl (v_fieldAddr rfl Tryz.underlying29 rfl Tryz.sizeOf26 rfl (by first | exact Nat.zero_add _ | rfl)) ?_
                        refine s_val rfl (v_load Tryz.isAgg26 rfl (cell_own rfl)) ?_
                        refine s_val rfl (v_move rfl) ?_
                        refine s_val rfl (v_idxA Tryz.underlying26 Tryz.sizeOf61 rfl hga rfl rfl hk1 (by first | exact Nat.zero_add _ | rfl)) ?_
                        refine s_val rfl (v_fieldAddr rfl Tryz.underlying61 rfl Tryz.sizeOf3 rfl (by first | exact Nat.zero_add _ | rfl)) ?_
                        refine s_val rfl (v_load Tryz.isAgg3 rfl (hc.weak 1 _ rfl)) ?_
                        refine s_val rfl (v_move rfl) (s_val rfl (v_eql rfl rfl) (x_nil (n_then ?_)))
                        refine x_if rfl ?_ ?_
                        · intro c16
                          refine x_region (s_val rfl (v_move rfl) (s_val rfl (v_nilCheck rfl) ?_))
                          refine s_val rfl (v_fieldAddr rfl Tryz.underlying234 rfl Tryz.sizeOf223 rfl (by first | exact Nat.zero_add _ | rfl)) ?_
                          refine s_val rfl (v_load Tryz.isAgg223 rfl (cell_own hcs.cv)) ?_
                          refine s_val rfl (v_nilCheck rfl) ?_
                          refine s_val rfl (v_fieldAddr rfl Tryz.underlying243 rfl Tryz.sizeOf235 rfl (by first | exact Nat.zero_add _ | rfl)) ?_
                          refine s_val rfl (v_load Tryz.isAgg235 rfl (cell_own rfl)) ?_
                          refine s_val rfl (v_move rfl) ?_
                          refine s_val rfl (v_add rfl rfl (by rw [w64 (by omega)]; omega : IntKind.wrap .i64 (8 + (k : Int)) = ((8 + k : Nat) : Int))) ?_
                          refine s_val rfl (v_move rfl) (s_val rfl (v_build Tryz.underlying238 Tryz.zeroValue238 (sized_cons Tryz.sizeOf3 (sized_cons Tryz.sizeOf3 sized_nil)) (fil_scal rfl Tryz.sizeOf3 rfl rfl (Nat.le_of_ble_eq_true rfl) SetL.eq (fil_scal rfl Tryz.sizeOf3 rfl rfl (Nat.le_of_ble_eq_true rfl) SetL.eq fil_nil))) ?_)
                          refine s_do rfl (d_call1 Tryz.call97 rfl (rgSet_spec W0 _ pm pg2 hpg2 (8 + k : Nat) (rgF c k, 1))) ?_
                          rintro _ B_ ⟨rfl, hB_⟩
                          obtain rfl := hB_.symm
                          refine x_nil (n_block (n_then ?_))
                          refine mid_intro (setP pg2 ((8 + k : Nat) : Int) (rgF c k, 1)) ?_ ?_ ?_
                          · exact ⟨setP_ok hpg2, hk1⟩
                          · repeat (first | exact sub_nil | refine sub_cons rfl ?_)
                          · exact inferInstance
                        · intro c16
                          refine x_skip (n_block (n_then ?_))
                          refine mid_intro pg2 ?_ ?_ ?_
                          · exact ⟨hpg2, hk1⟩
                          · repeat (first | exact sub_nil | refine sub_cons rfl ?_)
                          · exact inferInstance
                    · intro pg3 ⟨hpg3, hk1⟩
                      refine x_region (s_val rfl (v_move rfl) ?_)
                      refine s_val rfl (v_add rfl rfl (by first | exact w64 (by omega) | rfl)) ?_
                      refine s_val rfl (v_assign rfl) (x_nil (n_then ?_))
                      refine inv_intro (k + 1, pg3) ?_ ?_ ?_ ?_
                      · exact ⟨by omega, hpg3⟩
                      · show c.nl.length - (k + 1) < c.nl.length - k; omega
                      · repeat (first | exact sub_nil | refine sub_cons rfl ?_)
                      · exact inferInstance
                  · intro c11
                    refine x_exit (e_then (e_then (e_block (n_then (x_seq (x_region (s_val rfl (v_move rfl) (s_val rfl (v_assign rfl) (s_val rfl (v_assign rfl) (x_nil (n_then (x_ret (x_done (.inl rfl) (.cons (r_tmp rfl) (.cons (r_tmp rfl) .nil)) ?_)))))))))))))
                    exact ⟨_, ⟨gb, rfl, rfl⟩, inferInstance⟩
end Go.Proofs.YtnidndllknffgaaGreat
namespace Go.Proofs.YtnidndllknffgaaGreat
open Go.RowKit
set_option linter.unusedSimpArgs false
set_option linter.unusedVariables false
set_option maxRecDepth 20000
theorem v_fieldV {P : Program} {S : World → Prop} {N : FSz} {e : Env} {x : Operand} {v : Value} {l : List Value} {T : TypeId} {fs : Array Field} {nm : String} {i ft fo : Nat} {em : Bool} {tg pk : String} {bo : Nat} (hx : ev e x = some (.agg l.toArray)) (hu : P.underlying T = some (.struct fs)) (hf : fs.toList[i]? = some ⟨nm, ft, fo, em, tg, pk, bo⟩)
    (ha : ∀ w, (isAgg ft).run P w = .ok false w) (hl : l[fo]? = some v) : Val P S N e (.field T x i) v := fun a w _ _ _ _ _ hF _ => by
  have hf' : fs[i]? = some ⟨nm, ft, fo, em, tg, pk, bo⟩ := by simpa using hf
  simp only [execOp, Instr.field, hF.eval hx, Sem.run_bind, run_und hu, hf', Result.andThen_ok, asAgg, Sem.run_pure]
  rw [part_scal ha hl]; rfl
end Go.Proofs.YtnidndllknffgaaGreat
namespace Go.Proofs.YtnidndllknffgaaGreat
open Go.RowKit
set_option linter.unusedSimpArgs false
set_option linter.unusedVariables false
set_option maxRecDepth 20000
def PrS (ps : List Prt) : Prop := PrOk ps ∧ ∀ x ∈ ps, ∀ s ∈ x.l, s.size ≤ 32
theorem PrS.at_ {ps : List Prt} (h : PrS ps) {i : Nat} (hi : i < ps.length) : ∀ s ∈ (ps.getD i default).l, s.size ≤ 32 := by
  rw [show ps.getD i default = ps[i] by simp [List.getD, hi]]; exact h.2 _ (List.getElem_mem hi)
theorem PrS.set {ps : List Prt} (h : PrS ps) {i : Nat} {x : Prt} (hx : x.l.length ≤ mostP x) (hs : ∀ s ∈ x.l, s.size ≤ 32) : PrS (ps.set i x) := ⟨h.1.set hx, fun y hy => by
  rcases List.mem_or_eq_of_mem_set hy with q | q
  · exact h.2 y q
  · rw [q]; exact hs⟩
end Go.Proofs.YtnidndllknffgaaGreat
namespace Go.Proofs.YtnidndllknffgaaGreat
open Go.RowKit
set_option linter.unusedSimpArgs false
set_option linter.unusedVariables false
set_option maxRecDepth 20000
structure SvS where
  fr : List Frm
  d : Nat
  s : QS
  ps : List Prt
  c : Nat
  n : Nat
  b : Nat
  w : Int
@[reducible] def SvS.v (x : SvS) : List Value := [.int .i64 x.c, .int .i64 x.n, .int .i64 x.b, .int .i64 x.w]
end Go.Proofs.YtnidndllknffgaaGreat
namespace Go.Proofs.YtnidndllknffgaaGreat
open Go.RowKit
set_option linter.unusedSimpArgs false
set_option linter.unusedVariables false
set_option maxRecDepth 20000
end Go.Proofs.YtnidndllknffgaaGreat
namespace Go.Proofs.YtnidndllknffgaaGreat
open Go.RowKit
set_option linter.unusedSimpArgs false
set_option linter.unusedVariables false
set_option maxRecDepth 20000
end Go.Proofs.YtnidndllknffgaaGreat
namespace Go.Proofs.YtnidndllknffgaaGreat
open Go.RowKit
set_option linter.unusedSimpArgs false
set_option linter.unusedVariables false
set_option maxRecDepth 20000
end Go.Proofs.YtnidndllknffgaaGreat
namespace Go.Proofs.YtnidndllknffgaaGreat
open Go.RowKit
set_option linter.unusedSimpArgs false
set_option linter.unusedVariables false
set_option maxRecDepth 20000
structure SbS where
  fr : List Frm
  d : Nat
  s : QS
  x : Dk
  c : Nat
  n : Nat
  b : Nat
  w : Int
@[reducible] def SbS.v (x : SbS) : List Value := [.int .i64 x.c, .int .i64 x.n, .int .i64 x.b, .int .i64 x.w]
def rgnV (x : Rn) : List Value := [.int .i64 x.1, .int .i64 x.2.1, .int .i64 x.2.2]
def dnK (rs : List Rn) : Nat → Option (List Rn × List Int)
  | 0 => some ([], [])
  | k + 1 => (dnK rs k).bind fun y => if isL (rs.getD k (0, 0, 0)).1 = true ∧ gvE y.1 32 (rs.getD k (0, 0, 0)).2.1 (rs.getD k (0, 0, 0)).2.2 k = 0 then some (gvR y.1 32 (rs.getD k (0, 0, 0)).2.1 (rs.getD k (0, 0, 0)).2.2 k, y.2 ++ [(rs.getD k (0, 0, 0)).1]) else none
def dkNew (rs : List Rn) : Option Dk := if 8 < rs.length then none else (dnK rs rs.length).map fun y => ⟨y.1, y.2, List.replicate 32 z16⟩
theorem dnK_stop {rs : List Rn} {i : Nat} (h : dnK rs i = none) : ∀ {k : Nat}, i ≤ k → dnK rs k = none := by
  intro k hk
  induction k with
  | zero => rwa [show i = 0 by omega] at h
  | succ k ih =>
    rcases Nat.lt_or_ge i (k + 1) with q | q
    · rw [dnK, ih (by omega)]; rfl
    · rwa [show i = k + 1 by omega] at h
theorem gvR_who {rs : List Rn} {n f k w m : Int} (h : ∀ x ∈ rs, 0 ≤ x.2.2 ∧ x.2.2 < m) (hm : 0 ≤ w ∧ w ≤ m) : ∀ x ∈ gvR rs n f k w, 0 ≤ x.2.2 ∧ x.2.2 < m + 1 := by
  unfold gvR; split
  · intro x hx
    rw [rnIns] at hx
    rcases List.mem_append.1 hx with q | q
    · have := h x (List.mem_of_mem_take q); omega
    · rcases List.mem_cons.1 q with rfl | q
      · show 0 ≤ w ∧ w < m + 1; omega
      · have := h x (List.mem_of_mem_drop q); omega
  · intro x hx
    have := h x hx; omega
structure DnOk (k : Nat) (y : List Rn × List Int) : Prop where
  tb : TbOk y.1
  rl : y.1.length ≤ k
  ll : y.2.length = k
  wh : ∀ x ∈ y.1, 0 ≤ x.2.2 ∧ x.2.2 < (k : Int)
theorem dnK_ok (rs : List Rn) : ∀ {k : Nat} {y : List Rn × List Int}, dnK rs k = some y → DnOk k y
  | 0, y, h => by cases h; exact ⟨fun x hx => by simp at hx, Nat.le_refl _, rfl, fun x hx => by simp at hx⟩
  | k + 1, y, h => by
    rw [dnK] at h
    cases e : dnK rs k with
    | none => rw [e] at h; cases h
    | some z =>
      rw [e] at h
      obtain ⟨h1, h2, h3, h4⟩ := dnK_ok rs e
      have h' : (if isL (rs.getD k (0, 0, 0)).1 = true ∧ gvE z.1 32 (rs.getD k (0, 0, 0)).2.1 (rs.getD k (0, 0, 0)).2.2 k = 0 then some (gvR z.1 32 (rs.getD k (0, 0, 0)).2.1 (rs.getD k (0, 0, 0)).2.2 k, z.2 ++ [(rs.getD k (0, 0, 0)).1]) else none) = some y := h
      split at h'
      · cases h'
        refine ⟨gvR_ok h1 (by decide), Nat.le_trans gvR_len (by omega), by rw [List.length_append, h3]; rfl, fun x hx => ?_⟩
        have := gvR_who h4 (by omega) x hx
        omega
      · cases h'
theorem dkF_zero : dkF (List.replicate 32 z16) = fun _ => none := by
  funext k
  unfold dkF secD
  have e : (List.replicate 32 z16).getD k.toNat z16 = z16 := by
    simp only [List.getD, List.getElem?_replicate]
    split <;> rfl
  rw [e, if_pos rfl]; simp
theorem dkNew_spec (W0 : World) (R : List HP) (a : Option Addr) (c : Nat) (rs : List Rn) (hs : SlA (OwnP W0 R) a 3 rgnV rs) (hl : rs.length < 9223372036854775808) :
    Spec Tryz.prog W0 124 [.slice a rs.length c] R
      (fun v B => ∃ p Y, v = .tuple #[.pointer p, .int .i64 (if (dkNew rs).isSome then 0 else 14)] ∧ B = Y ++ R ∧ (dkNew rs = none → p = none ∧ Y = []) ∧ (∀ x, dkNew rs = some x → ∃ d, p = some ⟨d, 0, none⟩ ∧ Y = [dkH d x])) := by
  have hno : ∀ {p : Option Addr} {Y : List HP} (h : dkNew rs = none), p = none → Y = [] → (dkNew rs = none → p = none ∧ Y = []) ∧ (∀ x, dkNew rs = some x → ∃ d, p = some ⟨d, 0, none⟩ ∧ Y = [dkH d x]) := fun h h1 h2 => ⟨fun _ => ⟨h1, h2⟩, fun x hx => by rw [h] at hx; cases hx⟩
  refine spec_body Tryz.func124 Tryz.ntmps124 rfl rfl ?_
  refine x_seq (x_region (s_val rfl (v_assign rfl) (s_val rfl (v_assign rfl) (x_nil (n_then (x_seq (x_seq (x_region (s_val rfl (v_move rfl) (s_val rfl (v_len_slice Tryz.underlying24 rfl) (s_val rfl (v_gtr rfl rfl) (x_nil (n_then ?_)))))))))))))
  refine x_if rfl ?_ ?_
  · intro c1
    refine x_seq (x_region (s_val rfl (v_assign rfl) (s_val rfl (v_assign rfl) (x_nil (n_then (x_ret (r_then (x_done (.inl rfl) (.cons (r_tmp rfl) (.cons (r_tmp rfl) .nil)) ?_))))))))
    have hN : dkNew rs = none := by rw [dkNew, if_pos (by omega)]
    rw [hN]
    refine ⟨_, ⟨none, [], rfl, rfl, hno hN rfl rfl |>.1 |> fun q => (fun _ => ⟨rfl, rfl⟩), (fun x hx => by cases hx)⟩, ?_⟩
    simp only [List.nil_append]
    exact inferInstance
  · intro c1
    refine x_skip (n_then (x_seq ?_))
    have h8 : rs.length ≤ 8 := by omega
    have hD : dkNew rs = (dnK rs rs.length).map fun y => ⟨y.1, y.2, List.replicate 32 z16⟩ := by rw [dkNew, if_neg (by omega)]
    refine x_region ?_
    refine s_do rfl (d_call Tryz.call247 rfl (paNew_spec W0 _ 32 (by decide))) ?_
    rintro _ B_ ⟨bt, rfl, hB_⟩
    obtain rfl := hB_.symm
    refine s_val rfl (v_move rfl) (s_val rfl (v_extract rfl rfl) (s_val rfl (v_extract rfl rfl) (s_val rfl (v_assign rfl) (s_val rfl (v_assign rfl) (x_nil (n_then (x_seq (x_region (s_val rfl (v_move rfl) (s_do rfl (d_makeMap) ?_))))))))))
    rintro _ _ ⟨bm, rfl, rfl⟩
    refine s_val rfl (v_build Tryz.underlying425 Tryz.zeroValue425 (sized_cons Tryz.sizeOf410 (sized_cons Tryz.sizeOf37 (sized_cons Tryz.sizeOf423 sized_nil))) (fil_scal rfl Tryz.sizeOf410 rfl rfl (Nat.le_of_ble_eq_true rfl) SetL.eq (fil_scal rfl Tryz.sizeOf423 rfl rfl (Nat.le_of_ble_eq_true rfl) SetL.eq fil_nil))) ?_
    refine s_do rfl (d_boxA rfl) ?_
    rintro _ _ ⟨d, rfl, rfl⟩
    refine s_val rfl (v_assign rfl) (x_nil (n_then (x_seq (x_seq (x_region (s_val rfl (v_move rfl) (s_val rfl (v_len_slice Tryz.underlying24 rfl) (s_val rfl (v_move rfl) (x_nil (n_then (x_block ?_)))))))))))
    refine x_loop (fun X : Nat × List Rn × List Int × Option Addr × Nat => X.1 ≤ rs.length ∧ dnK rs X.1 = some (X.2.1, X.2.2.1)) (fun X => [(4, .pointer (some ⟨bt, 0, none⟩)), (6, .pointer (some ⟨d, 0, none⟩)), (20, .slice a rs.length c), (21, .int .i64 rs.length), (22, .int .i64 X.1)]) (fun X => pt d (dkO bt bm X.2.2.2.1 X.2.2.1.length X.2.2.2.2) :: tabH bt (X.2.1, 32) :: osl 3 1 (.slice X.2.2.2.1 X.2.2.1.length X.2.2.2.2) (X.2.2.1.flatMap inI) :: mapH bm (fun _ => none) :: R) (fun X => rs.length - X.1) (0, [], [], none, 0) ?_ ?_ ?_ ?_
    · exact ⟨Nat.zero_le _, rfl⟩
    · repeat (first | exact sub_nil | refine sub_cons rfl ?_)
    · show Ent _ (pt d (dkO bt bm none 0 0) :: tabH bt ([], 32) :: osl 3 1 (.slice none 0 0) [] :: mapH bm (fun _ => none) :: R)
      exact (ent_osl_nil (E := 3) (sz := 1) (k := ent_refl)).trans inferInstance
    · intro ⟨k, t, lb, aL, cL⟩ ⟨hk, hdn⟩
      dsimp only at hk hdn ⊢
      obtain ⟨h1, h2, h3, h4⟩ := dnK_ok rs hdn
      dsimp only at h1 h2 h3 h4
      refine x_seq (x_region (s_val rfl (v_lss rfl rfl) (x_nil (n_then (x_seq ?_)))))
      refine x_if rfl ?_ ?_
      · intro c6
        refine x_skip (n_then (x_seq (x_block (x_seq ?_))))
        have hk1 : k < rs.length := by omega
        obtain ⟨g, o, rfl, hc⟩ := hs.at_ hk1
        have hgk : rs.getD k (0, 0, 0) = rs[k] := by simp [List.getD, hk1]
        obtain ⟨x, hx⟩ : ∃ x, rs[k] = x := ⟨_, rfl⟩
        rw [hx] at hc hgk
        have hst : dnK rs (k + 1) = if isL x.1 = true ∧ gvE t 32 x.2.1 x.2.2 k = 0 then some (gvR t 32 x.2.1 x.2.2 k, lb ++ [x.1]) else none := by
          rw [dnK, hdn, hgk]; rfl
        refine x_region (s_val rfl (v_move rfl) ?_)
        refine s_val rfl (v_idx Tryz.underlying24 Tryz.sizeOf144 rfl rfl rfl hk1 (by first | exact Nat.zero_add _ | rfl)) ?_
        refine s_val rfl (v_loadAgg Tryz.isAgg144 Tryz.sizeOf144 rfl hc.weak rfl) ?_
        refine s_do rfl (d_allocA Tryz.zeroValue144) ?_
        rintro _ _ ⟨br, rfl, rfl⟩
        refine s_val rfl (v_assign rfl) (s_do0 (d_storeAll Tryz.sizeOf144 rfl rfl rfl rfl rfl) ?_)
        rintro _ _ rfl
        refine x_nil (n_then (x_seq (x_seq (x_region ?_))))
        refine s_val rfl (v_fieldAddr rfl Tryz.underlying144 rfl Tryz.sizeOf3 rfl (by first | exact Nat.zero_add _ | rfl)) ?_
        refine s_val rfl (v_load Tryz.isAgg3 rfl (cell_own rfl)) ?_
        refine s_do rfl (d_call Tryz.call126 rfl (lbCount_spec W0 _ x.1)) ?_
        rintro _ B_ ⟨m, rfl, hm, hB_⟩
        obtain rfl := hB_.symm
        refine s_val rfl (v_lss rfl rfl) (s_val rfl (v_move rfl) ?_)
        refine s_or rfl rfl rfl ?_ ?_
        · intro g8_5
          refine s_no rfl rfl rfl rfl (s_no rfl rfl rfl rfl (s_no rfl rfl rfl rfl (s_no rfl rfl rfl rfl (s_no rfl rfl rfl rfl (s_no rfl rfl rfl rfl (s_no rfl rfl rfl rfl (s_val rfl (v_pick_t rfl rfl) (x_nil (n_then (x_ift rfl (x_seq (x_region (s_val rfl (v_assign rfl) (s_val rfl (v_assign rfl) (x_nil (n_then (x_ret (r_then (r_block (r_then (r_then (r_block (r_then ?_)))))))))))))))))))))))
          refine x_done (.inl rfl) (.cons (r_tmp rfl) (.cons (r_tmp rfl) .nil)) ?_
          have hS : dnK rs (k + 1) = none := by
            rw [hst, if_neg]
            rintro ⟨q1, q2⟩
            first
              | exact absurd q2 c8
              | (rw [q1] at hm; simp at hm; omega)
          have hN : dkNew rs = none := by rw [hD, dnK_stop hS hk1]; rfl
          rw [hN]
          refine ⟨_, ⟨none, [], rfl, rfl, (fun _ => ⟨rfl, rfl⟩), (fun x hx => by cases hx)⟩, ?_⟩
          simp only [List.nil_append]
          exact inferInstance
        · intro g8_5
          refine s_val rfl (v_move rfl) (s_yes rfl rfl ?_)
          refine s_val rfl (v_fieldAddr rfl Tryz.underlying144 rfl Tryz.sizeOf3 rfl (by first | exact Nat.zero_add _ | rfl)) ?_
          refine s_yes rfl rfl (s_val rfl (v_load Tryz.isAgg3 rfl (cell_own rfl)) ?_)
          refine s_yes rfl rfl ?_
          refine s_val rfl (v_fieldAddr rfl Tryz.underlying144 rfl Tryz.sizeOf3 rfl (by first | exact Nat.zero_add _ | rfl)) ?_
          refine s_yes rfl rfl (s_val rfl (v_load Tryz.isAgg3 rfl (cell_own rfl)) ?_)
          refine s_yes rfl rfl (s_val rfl (v_move rfl) (s_yes rfl rfl ?_))
          refine s_do rfl (d_call1 Tryz.call249 rfl (paGive_spec W0 _ bt t 32 (by decide) h1 (by omega) x.2.1 x.2.2 k)) ?_
          rintro _ B_ ⟨rfl, hB_⟩
          obtain rfl := hB_.symm
          refine s_yes rfl rfl (s_val rfl (v_neq rfl rfl) (s_val rfl (v_pick_f rfl rfl) (x_nil (n_then ?_))))
          refine x_if rfl ?_ ?_
          · intro c8
            refine x_seq (x_region (s_val rfl (v_assign rfl) (s_val rfl (v_assign rfl) (x_nil (n_then (x_ret (r_then (r_block (r_then (r_then (r_block (r_then (x_done (.inl rfl) (.cons (r_tmp rfl) (.cons (r_tmp rfl) .nil)) ?_)))))))))))))
            have hS : dnK rs (k + 1) = none := by
              rw [hst, if_neg]
              rintro ⟨q1, q2⟩
              first
                | exact absurd q2 c8
                | (rw [q1] at hm; simp at hm; omega)
            have hN : dkNew rs = none := by rw [hD, dnK_stop hS hk1]; rfl
            rw [hN]
            refine ⟨_, ⟨none, [], rfl, rfl, (fun _ => ⟨rfl, rfl⟩), (fun x hx => by cases hx)⟩, ?_⟩
            simp only [List.nil_append]
            exact inferInstance
          · intro c8
            refine x_skip (n_then ?_)
            have hgo : isL x.1 = true ∧ gvE t 32 x.2.1 x.2.2 k = 0 := by
              refine ⟨?_, by first | exact Decidable.not_not.1 c8 | simpa using c8⟩
              rw [← Bool.not_eq_false]; intro q
              rw [q] at hm; simp at hm; omega
            rw [if_pos hgo] at hst
            refine x_draw [(br, 0, _)] 12 mixed rfl (sc_own sc_end) (fun hS => ?_)
            refine d_take 0 rfl rfl (by kernel_rfl) (by kernel_rfl) (by kernel_rfl) rfl hS (v_move rfl) ?_
            refine d_take 1 rfl rfl (by kernel_rfl) (by kernel_rfl) (by kernel_rfl) rfl hS (v_move rfl) ?_
            refine d_take 2 rfl rfl (by kernel_rfl) (by kernel_rfl) (by kernel_rfl) rfl hS (v_nilCheck rfl) ?_
            refine d_take 3 rfl rfl (by kernel_rfl) (by kernel_rfl) (by kernel_rfl) rfl hS (v_fieldAddr rfl Tryz.underlying425 rfl Tryz.sizeOf37 rfl (by first | exact Nat.zero_add _ | rfl)) ?_
            refine d_take 5 rfl rfl (by kernel_rfl) (by kernel_rfl) (by kernel_rfl) rfl hS (v_fieldAddr rfl Tryz.underlying144 rfl Tryz.sizeOf3 rfl (by first | exact Nat.zero_add _ | rfl)) ?_
            refine d_take 6 rfl rfl (by kernel_rfl) (by kernel_rfl) (by kernel_rfl) rfl hS (v_load Tryz.isAgg3 rfl (cell_sc0 (k := 0) rfl rfl)) ?_
            refine d_all (is := [4, 7]) (by kernel_rfl) rfl ⟨?_, ?_, trivial⟩
            · skip
              refine dx_one rfl rfl (d_val (v_load Tryz.isAgg37 rfl (cell_own rfl))) rfl ?_; clear hS
              rintro _ _ ⟨rfl, rfl⟩
              refine ⟨(sc_own sc_end), fun hS => ?_⟩
              refine d_one 7 (by kernel_rfl) rfl rfl (d_sliceLit Tryz.underlying37 Tryz.sizeOf3 Tryz.zeroValue3 rfl rfl rfl rfl rfl (by decide) (by decide)) rfl ?_; clear hS
              rintro _ _ ⟨b4, rfl, rfl⟩
              refine ⟨(sc_own sc_end), fun hS => ?_⟩
              refine d_one 8 (by kernel_rfl) rfl rfl (d_append (sz := 1) (by_ := 8) (info := Tryz.t3) Tryz.underlying37 (by kernel_rfl) rfl rfl rfl rfl (by decide) rfl rfl cells_all rfl rfl (by simp only [maxLen]; omega) (by omega)) rfl ?_; clear hS
              rintro _ _ ⟨aN, cN, rfl, rfl⟩
              refine ⟨(sc_own sc_end), fun hS => ?_⟩
              refine d_take 9 rfl rfl (by kernel_rfl) (by kernel_rfl) (by kernel_rfl) rfl hS (v_nilCheck rfl) ?_
              refine d_take 10 rfl rfl (by kernel_rfl) (by kernel_rfl) (by kernel_rfl) rfl hS (v_fieldAddr rfl Tryz.underlying425 rfl Tryz.sizeOf37 rfl (by first | exact Nat.zero_add _ | rfl)) ?_
              refine d_one 11 (by kernel_rfl) rfl rfl (d_store Tryz.sizeOf37 rfl rfl rfl (Nat.le_of_ble_eq_true rfl) SetL.eq) rfl ?_; clear hS
              rintro _ _ rfl
              refine ⟨(sc_own sc_end), fun hS => ?_⟩
              refine d_done (by kernel_rfl) ?_; clear hS
              refine n_block (n_then (x_region ?_))
              refine s_val rfl (v_add rfl rfl (by first | exact w64 (by omega) | rfl)) ?_
              refine s_val rfl (v_move rfl) (x_nil (n_then ?_))
              refine inv_intro (k + 1, gvR t 32 x.2.1 x.2.2 k, lb ++ [x.1], aN, cN) ?_ ?_ ?_ ?_
              · exact ⟨by omega, hst⟩
              · omega
              · repeat (first | exact sub_nil | refine sub_cons rfl ?_)
              · dsimp only
                rw [show (lb ++ [x.1]).length = lb.length + 1 from List.length_append .., show (lb ++ [x.1]).flatMap inI = lb.flatMap inI ++ [Value.int .i64 x.1] by rw [List.flatMap_append]; rfl]
                exact inferInstance
            · skip
              refine dx_one rfl rfl (d_sliceLit Tryz.underlying37 Tryz.sizeOf3 Tryz.zeroValue3 rfl rfl rfl rfl rfl (by decide) (by decide)) rfl ?_; clear hS
              rintro _ _ ⟨b4, rfl, rfl⟩
              refine ⟨(sc_own sc_end), fun hS => ?_⟩
              refine d_one 4 (by kernel_rfl) rfl rfl (d_val (v_load Tryz.isAgg37 rfl (cell_own rfl))) rfl ?_; clear hS
              rintro _ _ ⟨rfl, rfl⟩
              refine ⟨(sc_own sc_end), fun hS => ?_⟩
              refine d_one 8 (by kernel_rfl) rfl rfl (d_append (sz := 1) (by_ := 8) (info := Tryz.t3) Tryz.underlying37 (by kernel_rfl) rfl rfl rfl rfl (by decide) rfl rfl cells_all rfl rfl (by simp only [maxLen]; omega) (by omega)) rfl ?_; clear hS
              rintro _ _ ⟨aN, cN, rfl, rfl⟩
              refine ⟨(sc_own sc_end), fun hS => ?_⟩
              refine d_take 9 rfl rfl (by kernel_rfl) (by kernel_rfl) (by kernel_rfl) rfl hS (v_nilCheck rfl) ?_
              refine d_take 10 rfl rfl (by kernel_rfl) (by kernel_rfl) (by kernel_rfl) rfl hS (v_fieldAddr rfl Tryz.underlying425 rfl Tryz.sizeOf37 rfl (by first | exact Nat.zero_add _ | rfl)) ?_
              refine d_one 11 (by kernel_rfl) rfl rfl (d_store Tryz.sizeOf37 rfl rfl rfl (Nat.le_of_ble_eq_true rfl) SetL.eq) rfl ?_; clear hS
              rintro _ _ rfl
              refine ⟨(sc_own sc_end), fun hS => ?_⟩
              refine d_done (by kernel_rfl) ?_; clear hS
              refine n_block (n_then (x_region ?_))
              refine s_val rfl (v_add rfl rfl (by first | exact w64 (by omega) | rfl)) ?_
              refine s_val rfl (v_move rfl) (x_nil (n_then ?_))
              refine inv_intro (k + 1, gvR t 32 x.2.1 x.2.2 k, lb ++ [x.1], aN, cN) ?_ ?_ ?_ ?_
              · exact ⟨by omega, hst⟩
              · omega
              · repeat (first | exact sub_nil | refine sub_cons rfl ?_)
              · dsimp only
                rw [show (lb ++ [x.1]).length = lb.length + 1 from List.length_append .., show (lb ++ [x.1]).flatMap inI = lb.flatMap inI ++ [Value.int .i64 x.1] by rw [List.flatMap_append]; rfl]
                exact inferInstance
      · intro c6
        refine x_exit (e_then (e_then (e_block (n_then (x_seq (x_region (s_val rfl (v_move rfl) (s_val rfl (v_assign rfl) (s_val rfl (v_assign rfl) (x_nil (n_then (x_ret (x_done (.inl rfl) (.cons (r_tmp rfl) (.cons (r_tmp rfl) .nil)) ?_)))))))))))))
        obtain rfl : k = rs.length := by omega
        have hN : dkNew rs = some ⟨t, lb, List.replicate 32 z16⟩ := by rw [hD, hdn]; rfl
        rw [hN]
        refine ⟨_, ⟨_, [dkH d ⟨t, lb, List.replicate 32 z16⟩], rfl, rfl, (fun q => by cases q), (fun x hx => by cases hx; exact ⟨d, rfl, rfl⟩)⟩, ?_⟩
        simp only [List.cons_append, List.nil_append]
        exact ent_dk (x := ⟨t, lb, List.replicate 32 z16⟩) rfl rfl dkF_zero.symm rfl
end Go.Proofs.YtnidndllknffgaaGreat
namespace Go.Proofs.YtnidndllknffgaaGreat
open Go.RowKit
set_option linter.unusedSimpArgs false
set_option linter.unusedVariables false
set_option maxRecDepth 20000
def inL (p : Value × List ByteArray) : HP := osl 9 1 p.1 (strs p.2)
def ssH (v : Value) (ls : List (List ByteArray)) : HP := chk (fun C => ∃ vs : List Value, vs.length = ls.length ∧ C = [osl 218 1 v vs, kH 2 (grp ((vs.zip ls).map inL))])
section
variable {W0 : World} {N : FSz} {K : Act → World → Prop} {e : Env} {A B R R1 R2 R3 : List HP} {g n c : Nat} {a : Option Addr} {v : Value} {ls : List (List ByteArray)}
theorem run_ss [hk : Tk ssH v A ls R] (h : ∀ vs : List Value, vs.length = ls.length → Run W0 N K e (osl 218 1 v vs :: kH 2 (grp ((vs.zip ls).map inL)) :: R)) : Run W0 N K e A :=
  run_tk (r := ssH) (b := v) (run_chk fun C hC => by obtain ⟨vs, h1, rfl⟩ := hC; exact h vs h1)
theorem ent_ss {vs : List Value} [h1 : Tk (osl 218 1) v A vs R1] [h2 : Tk kH 2 R1 (grp ((vs.zip ls).map inL)) R2] (hv : vs.length = ls.length) [k : Ent R2 B] : Ent A (ssH v ls :: B) := by
  have e1 : A.Perm ([osl 218 1 v vs, kH 2 (grp ((vs.zip ls).map inL))] ++ R2) := h1.perm.trans (h2.perm.cons _)
  exact (Ent.ofPerm e1).trans ((ent_chk (R := R2) ⟨vs, hv, rfl⟩).trans (Ent.cons k))
theorem ent_ss_nil [k : Ent A B] : Ent A (ssH (.slice none 0 0) [] :: B) := by
  refine k.trans ?_
  have e1 : Ent B (kH 2 (grp ((List.zip ([] : List Value) ([] : List (List ByteArray))).map inL)) :: B) := ent_shut (A := [])
  have e2 : Ent (kH 2 (grp ((List.zip ([] : List Value) ([] : List (List ByteArray))).map inL)) :: B) (osl 218 1 (.slice none 0 0) [] :: kH 2 (grp ((List.zip ([] : List Value) ([] : List (List ByteArray))).map inL)) :: B) := ent_osl_nil
  exact e1.trans (e2.trans (ent_chk (C := [osl 218 1 (.slice none 0 0) [], kH 2 (grp ((List.zip ([] : List Value) ([] : List (List ByteArray))).map inL))]) (R := B) ⟨[], rfl, rfl⟩))
theorem ent_ss_snoc {vs : List Value} {x : Value} [h1 : Tk (osl 218 1) v A (vs ++ [x]) R1] [h2 : Tk kH 2 R1 (grp ((vs.zip ls).map inL)) R2] (hx : x = .slice none 0 0) (hv : vs.length = ls.length) [k : Ent R2 B] : Ent A (ssH v (ls ++ [[]]) :: B) := by
  subst hx
  have e1 : A.Perm (osl 218 1 v (vs ++ [Value.slice none 0 0]) :: kH 2 (grp ((vs.zip ls).map inL)) :: R2) := h1.perm.trans (h2.perm.cons _)
  have e3 : ((vs ++ [Value.slice none 0 0]).zip (ls ++ [[]])).map inL = (vs.zip ls).map inL ++ [osl 9 1 (.slice none 0 0) []] := by
    rw [List.zip_append hv, List.map_append]; rfl
  have e4 : Ent (kH 2 (grp ((vs.zip ls).map inL)) :: R2) (kH 2 (grp (((vs ++ [Value.slice none 0 0]).zip (ls ++ [[]])).map inL)) :: R2) := by
    rw [e3]
    refine (ent_open (A := (vs.zip ls).map inL) (R := R2)).trans ?_
    refine (ent_osl_nil (E := 9) (sz := 1) (B := (vs.zip ls).map inL ++ R2)).trans ?_
    refine (Ent.ofPerm (B := ((vs.zip ls).map inL ++ [osl 9 1 (.slice none 0 0) []]) ++ R2) ?_).trans ent_shut
    rw [List.append_assoc]; exact List.perm_middle.symm
  exact (Ent.ofPerm e1).trans ((Ent.cons e4).trans (ent_ss (ls := ls ++ [[]]) (vs := vs ++ [.slice none 0 0]) (B := B) (by simp [hv]) (k := k)))
theorem run_ssS {vs : List Value} {x : Value} [h1 : Tk (osl 218 1) v A (vs ++ [x]) R1] [h2 : Tk kH 2 R1 (grp ((vs.zip ls).map inL)) R2] (hx : x = .slice none 0 0) (hv : vs.length = ls.length) (k : Run W0 N K e (ssH v (ls ++ [[]]) :: R2)) : Run W0 N K e A :=
  run_ent (ent_ss_snoc (v := v) (ls := ls) (vs := vs) (x := x) (B := R2) hx hv (k := ent_refl)) k
end
end Go.Proofs.YtnidndllknffgaaGreat
namespace Go.Proofs.YtnidndllknffgaaGreat
open Go.RowKit
set_option linter.unusedSimpArgs false
set_option linter.unusedVariables false
set_option maxRecDepth 20000
def ptW (x : Prt) : List Value := [.int .i64 x.lab, .int .i64 x.gu]
def inQ (x : Prt) : List ByteArray := if x.gu = -1 then [] else x.l
def ouQ (x : Prt) : List ByteArray := if x.gu = -1 then x.l else []
@[reducible] def rpO (ps : List Prt) (aP aI aO : Option Addr) (cP cI cO : Nat) : Obj := cob [.slice aP ps.length cP, .slice aI ps.length cI, .slice aO ps.length cO] 357
def rpH (p : Nat) (ps : List Prt) : HP := chk (fun C => ∃ aP cP aI cI aO cO, C = [pt p (rpO ps aP aI aO cP cI cO), osl 146 2 (.slice aP ps.length cP) (ps.flatMap ptW), ssH (.slice aI ps.length cI) (ps.map inQ), ssH (.slice aO ps.length cO) (ps.map ouQ)])
section
variable {W0 : World} {N : FSz} {K : Act → World → Prop} {e : Env} {A B R R1 R2 R3 R4 R5 R6 : List HP} {p n : Nat} {ps : List Prt}
theorem run_rp [hk : Tk rpH p A ps R] (h : ∀ aP cP aI cI aO cO, Run W0 N K e (pt p (rpO ps aP aI aO cP cI cO) :: osl 146 2 (.slice aP ps.length cP) (ps.flatMap ptW) :: ssH (.slice aI ps.length cI) (ps.map inQ) :: ssH (.slice aO ps.length cO) (ps.map ouQ) :: R)) : Run W0 N K e A :=
  run_tk (r := rpH) (b := p) (run_chk fun C hC => by obtain ⟨aP, cP, aI, cI, aO, cO, rfl⟩ := hC; exact h aP cP aI cI aO cO)
theorem ent_rp {n1 n2 n3 : Nat} {xs : List Value} {li lo : List (List ByteArray)} {aP aI aO : Option Addr} {cP cI cO : Nat} [h1 : Tk pt p A (cob [.slice aP n1 cP, .slice aI n2 cI, .slice aO n3 cO] 357) R1] [h2 : Tk (osl 146 2) (.slice aP n1 cP) R1 xs R2] [h3 : Tk ssH (.slice aI n2 cI) R2 li R3] [h4 : Tk ssH (.slice aO n3 cO) R3 lo R4]
    (e1 : xs = ps.flatMap ptW) (e2 : li = ps.map inQ) (e3 : lo = ps.map ouQ) (e4 : n1 = ps.length) (e5 : n2 = ps.length) (e6 : n3 = ps.length) [k : Ent R4 B] : Ent A (rpH p ps :: B) := by
  subst e1; subst e2; subst e3; subst e4; subst e5; subst e6
  have e : A.Perm ([pt p (rpO ps aP aI aO cP cI cO), osl 146 2 (.slice aP ps.length cP) (ps.flatMap ptW), ssH (.slice aI ps.length cI) (ps.map inQ), ssH (.slice aO ps.length cO) (ps.map ouQ)] ++ R4) := h1.perm.trans ((h2.perm.trans ((h3.perm.trans (h4.perm.cons _)).cons _)).cons _)
  exact (Ent.ofPerm e).trans ((ent_chk (R := R4) ⟨aP, cP, aI, cI, aO, cO, rfl⟩).trans (Ent.cons k))
end
end Go.Proofs.YtnidndllknffgaaGreat
namespace Go.Proofs.YtnidndllknffgaaGreat
open Go.RowKit
set_option linter.unusedSimpArgs false
set_option linter.unusedVariables false
set_option maxRecDepth 20000
end Go.Proofs.YtnidndllknffgaaGreat
namespace Go.Proofs.YtnidndllknffgaaGreat
open Go.RowKit
set_option linter.unusedSimpArgs false
set_option linter.unusedVariables false
set_option maxRecDepth 20000
def nwB (l : List Pt2) : Bool := decide (l.length ≤ 8) && l.all fun x => isL x.1
theorem nwB_yes {l : List Pt2} (h : nwB l = true) : l.length ≤ 8 ∧ ∀ x ∈ l, isL x.1 = true := by
  rw [nwB, Bool.and_eq_true, decide_eq_true_iff, List.all_eq_true] at h; exact h
theorem nwB_all {l : List Pt2} (h1 : l.length ≤ 8) (h2 : ∀ i (hi : i < l.length), isL l[i].1 = true) : nwB l = true := by
  rw [nwB, Bool.and_eq_true, decide_eq_true_iff, List.all_eq_true]
  refine ⟨h1, fun x hx => ?_⟩
  obtain ⟨i, hi, rfl⟩ := List.getElem_of_mem hx
  exact h2 i hi
theorem nwB_no {l : List Pt2} {i : Nat} (hi : i < l.length) (h : ¬ isL l[i].1 = true) : nwB l = false := by
  rw [← Bool.not_eq_true]; intro q
  exact h ((nwB_yes q).2 _ (List.getElem_mem hi))
theorem newP_snoc {l : List Pt2} {i : Nat} (hi : i < l.length) : newP (l.take (i + 1)) = newP (l.take i) ++ [⟨l[i].1, l[i].2, []⟩] := by
  rw [newP, newP, List.take_succ_eq_append_getElem hi, List.map_append]; rfl
theorem inQ_nil (x y : Int) : inQ ⟨x, y, []⟩ = [] := by unfold inQ; split <;> rfl
theorem ouQ_nil (x y : Int) : ouQ ⟨x, y, []⟩ = [] := by unfold ouQ; split <;> rfl
theorem rpNew_spec (W0 : World) (R : List HP) (l : List Pt2) (a : Option Addr) (n c : Nat) (hln : l.length = n) (hs : SlA (OwnP W0 R) a 2 ptV2 l) :
    Spec Tryz.prog W0 83 [.slice a n c] R (fun v B => (nwB l = true ∧ ∃ p, v = .tuple #[.pointer (some ⟨p, 0, none⟩), .int .i64 0] ∧ B = rpH p (newP l) :: R) ∨ (nwB l = false ∧ v = .tuple #[.pointer none, .int .i64 15] ∧ B = R)) := by
  subst hln
  refine spec_body Tryz.func83 Tryz.ntmps83 rfl rfl ?_
  refine x_seq (x_region (s_val rfl (v_assign rfl) (s_val rfl (v_assign rfl) (x_nil (n_then (x_seq (x_seq (x_region (s_val rfl (v_move rfl) (s_val rfl (v_len_slice Tryz.underlying25 rfl) (s_val rfl (v_gtr rfl rfl) (x_nil (n_then ?_)))))))))))))
  refine x_if rfl ?_ ?_
  · intro c1
    refine x_seq (x_region (s_val rfl (v_assign rfl) (s_val rfl (v_assign rfl) (x_nil (n_then (x_ret (r_then (x_done (.inl rfl) (.cons (r_tmp rfl) (.cons (r_tmp rfl) .nil)) ?_))))))))
    have h0 : nwB l = false := by rw [nwB, decide_eq_false (by omega), Bool.false_and]
    exact ⟨_, .inr ⟨h0, rfl, rfl⟩, inferInstance⟩
  · intro c1
    have hn : l.length ≤ 8 := by omega
    refine x_skip (n_then (x_seq (x_region (s_val rfl (v_build Tryz.underlying357 Tryz.zeroValue357 (sized_cons Tryz.sizeOf25 (sized_cons Tryz.sizeOf355 (sized_cons Tryz.sizeOf355 sized_nil))) fil_nil) ?_))))
    refine s_do rfl (d_boxA rfl) ?_
    rintro _ _ ⟨p, rfl, rfl⟩
    refine s_val rfl (v_assign rfl) (x_nil (n_then (x_seq (x_seq (x_region (s_val rfl (v_assign rfl) (x_nil (n_then (x_block ?_)))))))))
    refine x_loop (fun i : Nat => i ≤ l.length ∧ ∀ j (hj : j < l.length), j < i → isL l[j].1 = true) (fun i => [(0, .slice a l.length c), (4, .pointer (some ⟨p, 0, none⟩)), (5, .int .i64 i)]) (fun i => rpH p (newP (l.take i)) :: R) (fun i => l.length - i) 0 ?_ ?_ ?_ ?_
    · exact ⟨Nat.zero_le _, fun j _ hj => absurd hj (Nat.not_lt_zero _)⟩
    · repeat (first | exact sub_nil | refine sub_cons rfl ?_)
    · have e1 : Ent (pt p (cob [.slice none 0 0, .slice none 0 0, .slice none 0 0] 357) :: R) (ssH (.slice none 0 0) [] :: pt p (cob [.slice none 0 0, .slice none 0 0, .slice none 0 0] 357) :: R) := ent_ss_nil
      have e2 : Ent (ssH (.slice none 0 0) [] :: pt p (cob [.slice none 0 0, .slice none 0 0, .slice none 0 0] 357) :: R) (ssH (.slice none 0 0) [] :: ssH (.slice none 0 0) [] :: pt p (cob [.slice none 0 0, .slice none 0 0, .slice none 0 0] 357) :: R) := ent_ss_nil
      have e3 : Ent (ssH (.slice none 0 0) [] :: ssH (.slice none 0 0) [] :: pt p (cob [.slice none 0 0, .slice none 0 0, .slice none 0 0] 357) :: R) (osl 146 2 (.slice none 0 0) [] :: ssH (.slice none 0 0) [] :: ssH (.slice none 0 0) [] :: pt p (cob [.slice none 0 0, .slice none 0 0, .slice none 0 0] 357) :: R) := ent_osl_nil
      have e4 : Ent (osl 146 2 (.slice none 0 0) [] :: ssH (.slice none 0 0) [] :: ssH (.slice none 0 0) [] :: pt p (cob [.slice none 0 0, .slice none 0 0, .slice none 0 0] 357) :: R) (rpH p [] :: R) := ent_rp rfl rfl rfl rfl rfl rfl
      exact e1.trans (e2.trans (e3.trans e4))
    · intro i ⟨hi, hjs⟩
      refine x_seq (x_seq (x_region (s_val rfl (v_move rfl) (s_val rfl (v_move rfl) (s_val rfl (v_len_slice Tryz.underlying25 rfl) (s_val rfl (v_lss rfl rfl) (x_nil (n_then ?_))))))))
      refine x_if rfl ?_ ?_
      · intro c5
        have hi1 : i < l.length := by omega
        obtain ⟨g, o, rfl, hc⟩ := hs.at_ hi1
        have hln : (newP (l.take i)).length = i := by rw [newP_len, List.length_take]; omega
        refine x_skip (n_then (x_seq (x_block (x_seq (x_seq (x_region (s_val rfl (v_move rfl) (s_val rfl (v_move rfl) ?_))))))))
        refine s_val rfl (v_idx Tryz.underlying25 Tryz.sizeOf146 rfl rfl rfl hi1 (by first | exact Nat.zero_add _ | rfl)) ?_
        refine s_val rfl (v_fieldAddr rfl Tryz.underlying146 rfl Tryz.sizeOf3 rfl (by first | exact Nat.zero_add _ | rfl)) ?_
        refine s_val rfl (v_load Tryz.isAgg3 rfl (Cells.weak hc 0 _ rfl)) ?_
        refine s_do rfl (d_call Tryz.call195 rfl (rlIs_spec W0 _ l[i].1)) ?_
        rintro _ B_ ⟨rfl, hB_⟩
        obtain rfl := hB_.symm
        refine s_val rfl (v_not rfl) (x_nil (n_then ?_))
        refine x_if rfl ?_ ?_
        · intro c7
          refine x_seq (x_region (s_val rfl (v_assign rfl) (s_val rfl (v_assign rfl) (x_nil (n_then (x_ret (r_then (r_block (r_then (r_then (r_block (r_then (x_done (.inl rfl) (.cons (r_tmp rfl) (.cons (r_tmp rfl) .nil)) ?_)))))))))))))
          exact ⟨_, .inr ⟨nwB_no hi1 (by simpa using c7), rfl, rfl⟩, inferInstance⟩
        · intro c7
          have hlb : isL l[i].1 = true := by simpa using c7
          refine x_skip (n_then (x_seq ?_))
          refine run_rp (p := p) fun aP cP aI cI aO cO => ?_
          simp only [rpO, hln]
          refine x_draw [(g, o + i * 2, ptV2 l[i])] 14 mixed rfl (sc_cons hc.weak sc_end) (fun hS => ?_)
          refine d_take 0 rfl rfl (by kernel_rfl) (by kernel_rfl) (by kernel_rfl) rfl hS (v_move rfl) ?_
          refine d_take 1 rfl rfl (by kernel_rfl) (by kernel_rfl) (by kernel_rfl) rfl hS (v_move rfl) ?_
          refine d_take 2 rfl rfl (by kernel_rfl) (by kernel_rfl) (by kernel_rfl) rfl hS (v_nilCheck rfl) ?_
          refine d_take 3 rfl rfl (by kernel_rfl) (by kernel_rfl) (by kernel_rfl) rfl hS (v_fieldAddr rfl Tryz.underlying357 rfl Tryz.sizeOf25 rfl (by first | exact Nat.zero_add _ | rfl)) ?_
          refine d_take 5 rfl rfl (by kernel_rfl) (by kernel_rfl) (by kernel_rfl) rfl hS (v_move rfl) ?_
          refine d_take 6 rfl rfl (by kernel_rfl) (by kernel_rfl) (by kernel_rfl) rfl hS (v_move rfl) ?_
          refine d_take 7 rfl rfl (by kernel_rfl) (by kernel_rfl) (by kernel_rfl) rfl hS (v_idx Tryz.underlying25 Tryz.sizeOf146 rfl rfl rfl hi1 (by first | exact Nat.zero_add _ | rfl)) ?_
          refine d_take 8 rfl rfl (by kernel_rfl) (by kernel_rfl) (by kernel_rfl) rfl hS (v_loadAgg Tryz.isAgg146 Tryz.sizeOf146 rfl (cells_sc (k := 0) rfl) rfl) ?_
          refine d_all (is := [4, 9]) (by kernel_rfl) rfl ⟨?_, ?_, trivial⟩
          · skip
            refine dx_one rfl rfl (d_val (v_load Tryz.isAgg25 rfl (cell_own rfl))) rfl ?_; clear hS
            rintro _ _ ⟨rfl, rfl⟩
            refine ⟨(sc_cons hc.weak sc_end), fun hS => ?_⟩
            refine d_one 9 (by kernel_rfl) rfl rfl (d_sliceAgg Tryz.underlying25 Tryz.sizeOf146 Tryz.zeroValue146 rfl (elsK_cons rfl rfl elsK_nil) rfl (by decide) (by decide) (by decide)) rfl ?_; clear hS
            rintro _ _ ⟨b2, rfl, rfl⟩
            refine ⟨(sc_cons hc.weak sc_end), fun hS => ?_⟩
            refine d_one 10 (by kernel_rfl) rfl rfl (d_append (sz := 2) (by_ := 16) (info := Tryz.t146) Tryz.underlying25 (by kernel_rfl) rfl rfl rfl rfl (by decide) rfl rfl cells_all rfl rfl (by simp only [maxLen]; omega) (by omega)) rfl ?_; clear hS
            rintro _ _ ⟨a6, k6, rfl, rfl⟩
            refine ⟨(sc_cons hc.weak sc_end), fun hS => ?_⟩
            refine d_take 11 rfl rfl (by kernel_rfl) (by kernel_rfl) (by kernel_rfl) rfl hS (v_nilCheck rfl) ?_
            refine d_take 12 rfl rfl (by kernel_rfl) (by kernel_rfl) (by kernel_rfl) rfl hS (v_fieldAddr rfl Tryz.underlying357 rfl Tryz.sizeOf25 rfl (by first | exact Nat.zero_add _ | rfl)) ?_
            refine d_one 13 (by kernel_rfl) rfl rfl (d_store Tryz.sizeOf25 rfl rfl rfl (Nat.le_of_ble_eq_true rfl) SetL.eq) rfl ?_; clear hS
            rintro _ _ rfl
            refine ⟨(sc_cons hc.weak sc_end), fun hS => ?_⟩
            refine d_done (by kernel_rfl) ?_; clear hS
            refine n_then (x_seq ?_)
            refine run_ss (v := .slice aI i cI) fun vI hvI => ?_
            refine x_region (s_val rfl (v_move rfl) (s_val rfl (v_move rfl) (s_val rfl (v_nilCheck rfl) ?_)))
            refine s_val rfl (v_fieldAddr rfl Tryz.underlying357 rfl Tryz.sizeOf355 rfl (by first | exact Nat.zero_add _ | rfl)) ?_
            refine s_val rfl (v_load Tryz.isAgg355 rfl (cell_own rfl)) ?_
            refine s_do rfl (d_sliceLit Tryz.underlying355 Tryz.sizeOf218 Tryz.zeroValue218 rfl rfl rfl rfl rfl (by decide) (by decide)) ?_
            rintro _ _ ⟨b3, rfl, rfl⟩
            refine s_do rfl (d_append (sz := 1) (by_ := 24) (info := Tryz.t218) Tryz.underlying355 (by kernel_rfl) rfl rfl rfl rfl (by decide) rfl rfl cells_all rfl rfl (by simp only [maxLen]; omega) (by omega)) ?_
            rintro _ _ ⟨a7, k7, rfl, rfl⟩
            refine s_val rfl (v_nilCheck rfl) ?_
            refine s_val rfl (v_fieldAddr rfl Tryz.underlying357 rfl Tryz.sizeOf355 rfl (by first | exact Nat.zero_add _ | rfl)) ?_
            refine s_do0 (d_store Tryz.sizeOf355 rfl rfl rfl (Nat.le_of_ble_eq_true rfl) SetL.eq) ?_
            rintro _ _ rfl
            refine x_nil (n_then (run_ssS (v := .slice a7 (i + 1) k7) (vs := vI) rfl hvI ?_))
            refine run_ss (v := .slice aO i cO) fun vO hvO => ?_
            refine x_region (s_val rfl (v_move rfl) (s_val rfl (v_move rfl) (s_val rfl (v_nilCheck rfl) ?_)))
            refine s_val rfl (v_fieldAddr rfl Tryz.underlying357 rfl Tryz.sizeOf355 rfl (by first | exact Nat.zero_add _ | rfl)) ?_
            refine s_val rfl (v_load Tryz.isAgg355 rfl (cell_own rfl)) ?_
            refine s_do rfl (d_sliceLit Tryz.underlying355 Tryz.sizeOf218 Tryz.zeroValue218 rfl rfl rfl rfl rfl (by decide) (by decide)) ?_
            rintro _ _ ⟨b4, rfl, rfl⟩
            refine s_do rfl (d_append (sz := 1) (by_ := 24) (info := Tryz.t218) Tryz.underlying355 (by kernel_rfl) rfl rfl rfl rfl (by decide) rfl rfl cells_all rfl rfl (by simp only [maxLen]; omega) (by omega)) ?_
            rintro _ _ ⟨a8, k8, rfl, rfl⟩
            refine s_val rfl (v_nilCheck rfl) ?_
            refine s_val rfl (v_fieldAddr rfl Tryz.underlying357 rfl Tryz.sizeOf355 rfl (by first | exact Nat.zero_add _ | rfl)) ?_
            refine s_do0 (d_store Tryz.sizeOf355 rfl rfl rfl (Nat.le_of_ble_eq_true rfl) SetL.eq) ?_
            rintro _ _ rfl
            refine x_nil (n_block (n_then (run_ssS (v := .slice a8 (i + 1) k8) (vs := vO) rfl hvO ?_)))
            refine x_region (s_val rfl (v_move rfl) ?_)
            refine s_val rfl (v_add rfl rfl (by first | exact w64 (by omega) | rfl)) ?_
            refine s_val rfl (v_assign rfl) (x_nil (n_then ?_))
            refine inv_intro (i + 1) ?_ ?_ ?_ ?_
            · refine ⟨by omega, fun j hj h => ?_⟩
              rcases Nat.lt_or_ge j i with q | q
              · exact hjs j hj q
              · obtain rfl : j = i := by omega
                exact hlb
            · omega
            · repeat (first | exact sub_nil | refine sub_cons rfl ?_)
            · rw [newP_snoc hi1]
              exact ent_rp (by rw [List.flatMap_append]; rfl) (by rw [List.map_append, List.map_cons, List.map_nil, inQ_nil]) (by rw [List.map_append, List.map_cons, List.map_nil, ouQ_nil]) (by rw [List.length_append, hln]; rfl) (by rw [List.length_append, hln]; rfl) (by rw [List.length_append, hln]; rfl)
          · skip
            refine dx_one rfl rfl (d_sliceAgg Tryz.underlying25 Tryz.sizeOf146 Tryz.zeroValue146 rfl (elsK_cons rfl rfl elsK_nil) rfl (by decide) (by decide) (by decide)) rfl ?_; clear hS
            rintro _ _ ⟨b2, rfl, rfl⟩
            refine ⟨(sc_cons hc.weak sc_end), fun hS => ?_⟩
            refine d_one 4 (by kernel_rfl) rfl rfl (d_val (v_load Tryz.isAgg25 rfl (cell_own rfl))) rfl ?_; clear hS
            rintro _ _ ⟨rfl, rfl⟩
            refine ⟨(sc_cons hc.weak sc_end), fun hS => ?_⟩
            refine d_one 10 (by kernel_rfl) rfl rfl (d_append (sz := 2) (by_ := 16) (info := Tryz.t146) Tryz.underlying25 (by kernel_rfl) rfl rfl rfl rfl (by decide) rfl rfl cells_all rfl rfl (by simp only [maxLen]; omega) (by omega)) rfl ?_; clear hS
            rintro _ _ ⟨a6, k6, rfl, rfl⟩
            refine ⟨(sc_cons hc.weak sc_end), fun hS => ?_⟩
            refine d_take 11 rfl rfl (by kernel_rfl) (by kernel_rfl) (by kernel_rfl) rfl hS (v_nilCheck rfl) ?_
            refine d_take 12 rfl rfl (by kernel_rfl) (by kernel_rfl) (by kernel_rfl) rfl hS (v_fieldAddr rfl Tryz.underlying357 rfl Tryz.sizeOf25 rfl (by first | exact Nat.zero_add _ | rfl)) ?_
            refine d_one 13 (by kernel_rfl) rfl rfl (d_store Tryz.sizeOf25 rfl rfl rfl (Nat.le_of_ble_eq_true rfl) SetL.eq) rfl ?_; clear hS
            rintro _ _ rfl
            refine ⟨(sc_cons hc.weak sc_end), fun hS => ?_⟩
            refine d_done (by kernel_rfl) ?_; clear hS
            refine n_then (x_seq ?_)
            refine run_ss (v := .slice aI i cI) fun vI hvI => ?_
            refine x_region (s_val rfl (v_move rfl) (s_val rfl (v_move rfl) (s_val rfl (v_nilCheck rfl) ?_)))
            refine s_val rfl (v_fieldAddr rfl Tryz.underlying357 rfl Tryz.sizeOf355 rfl (by first | exact Nat.zero_add _ | rfl)) ?_
            refine s_val rfl (v_load Tryz.isAgg355 rfl (cell_own rfl)) ?_
            refine s_do rfl (d_sliceLit Tryz.underlying355 Tryz.sizeOf218 Tryz.zeroValue218 rfl rfl rfl rfl rfl (by decide) (by decide)) ?_
            rintro _ _ ⟨b3, rfl, rfl⟩
            refine s_do rfl (d_append (sz := 1) (by_ := 24) (info := Tryz.t218) Tryz.underlying355 (by kernel_rfl) rfl rfl rfl rfl (by decide) rfl rfl cells_all rfl rfl (by simp only [maxLen]; omega) (by omega)) ?_
            rintro _ _ ⟨a7, k7, rfl, rfl⟩
            refine s_val rfl (v_nilCheck rfl) ?_
            refine s_val rfl (v_fieldAddr rfl Tryz.underlying357 rfl Tryz.sizeOf355 rfl (by first | exact Nat.zero_add _ | rfl)) ?_
            refine s_do0 (d_store Tryz.sizeOf355 rfl rfl rfl (Nat.le_of_ble_eq_true rfl) SetL.eq) ?_
            rintro _ _ rfl
            refine x_nil (n_then (run_ssS (v := .slice a7 (i + 1) k7) (vs := vI) rfl hvI ?_))
            refine run_ss (v := .slice aO i cO) fun vO hvO => ?_
            refine x_region (s_val rfl (v_move rfl) (s_val rfl (v_move rfl) (s_val rfl (v_nilCheck rfl) ?_)))
            refine s_val rfl (v_fieldAddr rfl Tryz.underlying357 rfl Tryz.sizeOf355 rfl (by first | exact Nat.zero_add _ | rfl)) ?_
            refine s_val rfl (v_load Tryz.isAgg355 rfl (cell_own rfl)) ?_
            refine s_do rfl (d_sliceLit Tryz.underlying355 Tryz.sizeOf218 Tryz.zeroValue218 rfl rfl rfl rfl rfl (by decide) (by decide)) ?_
            rintro _ _ ⟨b4, rfl, rfl⟩
            refine s_do rfl (d_append (sz := 1) (by_ := 24) (info := Tryz.t218) Tryz.underlying355 (by kernel_rfl) rfl rfl rfl rfl (by decide) rfl rfl cells_all rfl rfl (by simp only [maxLen]; omega) (by omega)) ?_
            rintro _ _ ⟨a8, k8, rfl, rfl⟩
            refine s_val rfl (v_nilCheck rfl) ?_
            refine s_val rfl (v_fieldAddr rfl Tryz.underlying357 rfl Tryz.sizeOf355 rfl (by first | exact Nat.zero_add _ | rfl)) ?_
            refine s_do0 (d_store Tryz.sizeOf355 rfl rfl rfl (Nat.le_of_ble_eq_true rfl) SetL.eq) ?_
            rintro _ _ rfl
            refine x_nil (n_block (n_then (run_ssS (v := .slice a8 (i + 1) k8) (vs := vO) rfl hvO ?_)))
            refine x_region (s_val rfl (v_move rfl) ?_)
            refine s_val rfl (v_add rfl rfl (by first | exact w64 (by omega) | rfl)) ?_
            refine s_val rfl (v_assign rfl) (x_nil (n_then ?_))
            refine inv_intro (i + 1) ?_ ?_ ?_ ?_
            · refine ⟨by omega, fun j hj h => ?_⟩
              rcases Nat.lt_or_ge j i with q | q
              · exact hjs j hj q
              · obtain rfl : j = i := by omega
                exact hlb
            · omega
            · repeat (first | exact sub_nil | refine sub_cons rfl ?_)
            · rw [newP_snoc hi1]
              exact ent_rp (by rw [List.flatMap_append]; rfl) (by rw [List.map_append, List.map_cons, List.map_nil, inQ_nil]) (by rw [List.map_append, List.map_cons, List.map_nil, ouQ_nil]) (by rw [List.length_append, hln]; rfl) (by rw [List.length_append, hln]; rfl) (by rw [List.length_append, hln]; rfl)
      · intro c5
        refine x_exit (e_then (e_then (e_block (n_then (x_seq (x_region (s_val rfl (v_move rfl) (s_val rfl (v_assign rfl) (s_val rfl (v_assign rfl) (x_nil (n_then (x_ret (x_done (.inl rfl) (.cons (r_tmp rfl) (.cons (r_tmp rfl) .nil)) ?_)))))))))))))
        obtain rfl : i = l.length := by omega
        rw [List.take_of_length_le (Nat.le_refl _)]
        exact ⟨_, .inl ⟨nwB_all hn fun j hj => hjs j hj hj, p, rfl, rfl⟩, inferInstance⟩
end Go.Proofs.YtnidndllknffgaaGreat
namespace Go.Proofs.YtnidndllknffgaaGreat
open Go.RowKit
set_option linter.unusedSimpArgs false
set_option linter.unusedVariables false
set_option maxRecDepth 20000
theorem dnK_rt {c : Cfg} (h : raW c = false) : ∀ k, k ≤ c.rl.length → ∃ y, dnK c.rl k = some (rgT c k, y)
  | 0, _ => ⟨[], rfl⟩
  | k + 1, hk => by
    obtain ⟨y, hy⟩ := dnK_rt h k (by omega)
    simp only [raW, Bool.or_eq_false_iff, decide_eq_false_iff_not] at h
    have hw := anyW_false h.2 (i := k) (by omega)
    rw [rgW, Bool.not_eq_false', Bool.and_eq_true, decide_eq_true_iff] at hw
    obtain ⟨h1, h2⟩ := hw
    have hl : isL (rlA c k).1 = true := by
      have := h1
      simp only [vaL, Bool.and_eq_true] at this
      exact this.1.2
    refine ⟨y ++ [(rlA c k).1], ?_⟩
    rw [dnK, hy, rgT, if_pos h1]
    show (if isL (rlA c k).1 = true ∧ gvE (rgT c k) 32 (rlA c k).2.1 (rlA c k).2.2 k = 0 then _ else _) = _
    rw [if_pos ⟨hl, h2⟩]; rfl
theorem dk_rt {c : Cfg} (h : rt c = true) : ∃ x, dkNew c.rl = some x := by
  obtain ⟨_, _, _, k1, _⟩ := rt_yes h
  obtain ⟨y, hy⟩ := dnK_rt k1 c.rl.length (Nat.le_refl _)
  have := (raW_no k1).1
  exact ⟨_, by rw [dkNew, if_neg (by omega), hy]; rfl⟩
theorem po_rt {c : Cfg} (h : rt c = true) : nwB c.pl = true := by
  obtain ⟨_, _, _, _, k1, _⟩ := rt_yes h
  simp only [poW, Bool.or_eq_false_iff, decide_eq_false_iff_not] at k1
  refine nwB_all (by omega) fun i hi => ?_
  have hw := anyW_false k1.2 hi
  simp only [prtW, Bool.or_eq_false_iff, Bool.not_eq_false'] at hw
  have := hw.1
  rw [show c.pl.getD i (0, 0) = c.pl[i] by simp [List.getD, hi]] at this
  simp only [vaL, Bool.and_eq_true] at this
  exact this.1.2
theorem gate_rt {c : Cfg} (h : rt c = true) : (0 ≤ c.cats ∧ c.cats ≤ 8) ∧ (-1 ≤ c.gate ∧ c.gate < 4) ∧ (0 ≤ c.quota ∧ c.quota ≤ 64) := by
  have hg4 := (cfR h).g4
  obtain ⟨k1, k2, _, _, _, _, _, k3, _⟩ := rt_yes h
  refine ⟨⟨k1, k2⟩, ?_⟩
  unfold gtW at k3
  split at k3
  · rw [decide_eq_false_iff_not] at k3; omega
  · rw [Bool.not_eq_false', Bool.and_eq_true, decide_eq_true_iff, isG, decide_eq_true_iff] at k3; omega
theorem rep_set {n f : Nat} : (List.replicate n zeros).set f zeros = List.replicate n zeros := by
  apply List.ext_getElem
  · simp
  · intro i h1 h2; rw [List.getElem_set]; simp
theorem ownV_some {c : Cfg} {f i : Nat} (hr : rt c = true) (hf : f < nFr c) (h : ownO c f = some i) : ownV c f = (1, (i : Int)) := by
  rw [ownV, if_pos ⟨hr, by omega, by have := (cfR hr).nd; rw [nFr] at hf; omega⟩, h]; rfl
theorem ownV_none {c : Cfg} {f : Nat} (hr : rt c = true) (hf : f < nFr c) (h : ownO c f = none) : (ownV c f).1 = 2 := by
  rw [ownV, if_pos ⟨hr, by omega, by have := (cfR hr).nd; rw [nFr] at hf; omega⟩, h]; rfl
theorem hoOwned_spec (W0 : World) (R : List HP) (c : Cfg) (h : CfK W0 c) (hr : rt c = true) (ps : Nat) :
    Spec Tryz.prog W0 48 [.agg (cfgV c).toArray, pV ps] (stoH ps (List.replicate (nFr c) zeros) :: R)
      (fun v B => ∃ pb, v = .tuple #[pV pb, .int .i64 0] ∧ B = poH pb (ps, poI c (nFr c)) :: stoH ps (List.replicate (nFr c) zeros) :: R) := by
  have hR := cfR hr
  have hnd := hR.nd
  have hg4 := hR.g4
  have hn : 0 < nFr c ∧ nFr c ≤ 32 := by rw [nFr]; omega
  have hlr : (List.replicate (nFr c) zeros).length = nFr c := by simp
  refine spec_body Tryz.func48 Tryz.ntmps48 rfl rfl ?_
  refine x_seq (x_region (s_do rfl (d_boxA rfl) ?_))
  rintro _ _ ⟨b2, rfl, rfl⟩
  refine s_val rfl (v_assign rfl) (s_val rfl (v_assign rfl) (x_nil (n_then (x_seq (x_region (s_val rfl (v_move rfl) ?_))))))
  refine s_do rfl (d_call1 Tryz.call121 rfl (poNew_spec W0 _ ps (List.replicate (nFr c) zeros) (by rw [hlr]; omega) (by rw [hlr]; omega))) ?_
  rintro _ B_ ⟨pb, rfl, hB_⟩
  obtain rfl := hB_.symm
  rw [hlr, ← poI_zero]
  refine s_val rfl (v_move rfl) (s_val rfl (v_extract rfl rfl) (s_val rfl (v_extract rfl rfl) (s_val rfl (v_assign rfl) (s_val rfl (v_assign rfl) (x_nil (n_then (x_seq (x_seq (x_region (s_val rfl (v_move rfl) (s_val rfl (v_neq rfl rfl) (x_nil (n_then ?_)))))))))))))
  refine x_if rfl ?_ ?_
  · intro c2
    exact absurd c2 (by decide)
  · intro c2
    refine x_skip (n_then (x_seq (x_seq (x_region (s_val rfl (v_move rfl) (s_do rfl (d_call1 Tryz.call86 rfl (frLen_spec W0 _ ps (List.replicate (nFr c) zeros))) ?_))))))
    rintro _ B_ ⟨rfl, hB_⟩
    obtain rfl := hB_.symm
    rw [hlr]
    refine s_val rfl (v_move rfl) (x_nil (n_then (x_block ?_)))
    refine x_loop (fun f : Nat => f ≤ nFr c) (fun f => [(2, pV b2), (6, pV pb), (19, .int .i64 (nFr c : Nat)), (20, .int .i64 f)]) (fun f => pt b2 (cfO c) :: poH pb (ps, poI c f) :: stoH ps (List.replicate (nFr c) zeros) :: R) (fun f => nFr c - f) 0 ?_ ?_ ?_ ?_
    · exact Nat.zero_le _
    · repeat (first | exact sub_nil | refine sub_cons rfl ?_)
    · exact inferInstance
    · intro f hf
      refine x_seq (x_region (s_val rfl (v_lss rfl rfl) (x_nil (n_then (x_seq ?_)))))
      refine x_if rfl ?_ ?_
      · intro c5
        refine x_skip (n_then ?_)
        refine x_cut (fun _ : Unit => f < nFr c) (fun _ => [(2, pV b2), (6, pV pb), (19, .int .i64 (nFr c : Nat)), (20, .int .i64 f)]) (fun _ => pt b2 (cfO c) :: poH pb (ps, poI c (f + 1)) :: stoH ps (List.replicate (nFr c) zeros) :: R) ?_ ?_
        · skip
          refine x_block (x_seq (x_region (s_val rfl (v_move rfl) (s_val rfl (v_assign rfl) (x_nil (n_then (x_seq ?_)))))))
          have hf1 : f < nFr c := by omega
          have hos := ownV_some (i := (ownO c f).getD 0) hr hf1
          have hon := ownV_none hr hf1
          refine x_region (s_val rfl (v_loadAll Tryz.isAgg29 Tryz.sizeOf29 rfl rfl) ?_)
          refine s_val rfl (v_move rfl) (s_do rfl (d_call Tryz.call122 rfl (cfOwner_spec W0 _ c h f)) ?_)
          rintro _ B_ ⟨rfl, hB_⟩
          obtain rfl := hB_.symm
          refine s_do rfl (d_allocA Tryz.zeroValue195) ?_
          rintro _ _ ⟨b9, rfl, rfl⟩
          refine s_do0 (d_storeAll Tryz.sizeOf195 rfl rfl rfl rfl rfl) ?_
          rintro _ _ rfl
          refine x_nil (n_then (x_seq (x_region ?_)))
          refine s_val rfl (v_fieldAddr rfl Tryz.underlying195 rfl Tryz.sizeOf3 rfl (by first | exact Nat.zero_add _ | rfl)) ?_
          refine s_val rfl (v_load Tryz.isAgg3 rfl (cell_own rfl)) ?_
          refine s_val rfl (v_eql rfl rfl) (x_nil (n_then ?_))
          refine x_if rfl ?_ ?_
          · intro c8
            obtain ⟨i, hi⟩ : ∃ i, ownO c f = some i := by
              cases e : ownO c f with
              | some i => exact ⟨i, rfl⟩
              | none => have := hon e; rw [this] at c8; exact absurd c8 (by decide)
            have hov := ownV_some hr hf1 hi
            have hi4 := ((ownO_some hR).1 hi).1
            have hps := poI_some hf1 hi
            refine x_region (s_val rfl (v_move rfl) (s_val rfl (v_move rfl) ?_))
            refine s_val rfl (v_fieldAddr rfl Tryz.underlying195 rfl Tryz.sizeOf3 rfl (by first | exact Nat.zero_add _ | rfl)) ?_
            refine s_val rfl (v_load Tryz.isAgg3 rfl (cell_own (by rw [hov]; rfl : (ownL (ownV c f))[1]? = some (.int .i64 (i : Int))))) ?_
            refine s_do rfl (d_call2 Tryz.call123 rfl (poOwn_spec W0 _ pb ps (poI c f) (List.replicate (nFr c) zeros) f i (by rw [poI_len]; exact hf1) (by rw [hlr]; exact hf1) (by omega) (poI_ok hR f) (by rw [poI_at hf1, if_neg (by omega)]))) ?_
            rintro _ B_ ⟨rfl, hB_⟩
            obtain rfl := hB_.symm
            rw [rep_set, ← hps]
            refine x_nil (n_block (n_then ?_))
            refine mid_intro () ?_ ?_ ?_
            · exact hf1
            · repeat (first | exact sub_nil | refine sub_cons rfl ?_)
            · exact inferInstance
          · intro c8
            have hps : poI c (f + 1) = poI c f := by
              cases e : ownO c f with
              | none => exact poI_none e
              | some i => have := ownV_some hr hf1 e; rw [this] at c8; exact absurd rfl c8
            refine x_skip (n_block (n_then ?_))
            refine mid_intro () ?_ ?_ ?_
            · exact hf1
            · repeat (first | exact sub_nil | refine sub_cons rfl ?_)
            · rw [hps]
              exact inferInstance
        · intro _ hf1
          refine x_region ?_
          refine s_val rfl (v_add rfl rfl (by first | exact w64 (by omega) | rfl)) ?_
          refine s_val rfl (v_move rfl) (x_nil (n_then ?_))
          refine inv_intro (f + 1) ?_ ?_ ?_ ?_
          · omega
          · omega
          · repeat (first | exact sub_nil | refine sub_cons rfl ?_)
          · exact inferInstance
      · intro c5
        refine x_exit (e_then (e_then (e_block (n_then (x_seq (x_region (s_val rfl (v_move rfl) (s_val rfl (v_assign rfl) (s_val rfl (v_assign rfl) (x_nil (n_then (x_ret (x_done (.inl rfl) (.cons (r_tmp rfl) (.cons (r_tmp rfl) .nil)) ?_)))))))))))))
        obtain rfl : f = nFr c := by omega
        exact ⟨_, ⟨pb, rfl, rfl⟩, inferInstance⟩
theorem hoFilled_spec (W0 : World) (R : List HP) (c : Cfg) (h : CfK W0 c) (hr : rt c = true) :
    Spec Tryz.prog W0 49 [.agg (cfgV c).toArray, .slice none 0 0] R (fun v B => ∃ db x, v = .tuple #[pV db, .int .i64 0] ∧ B = dkH db x :: R) := by
  obtain ⟨x, hx⟩ := dk_rt hr
  have hl := (raW_no (rt_yes hr).2.2.2.1).1
  refine spec_body Tryz.func49 Tryz.ntmps49 rfl rfl ?_
  refine x_seq (x_region (s_do rfl (d_boxA rfl) ?_))
  rintro _ _ ⟨b2, rfl, rfl⟩
  refine s_val rfl (v_assign rfl) (s_val rfl (v_assign rfl) (x_nil (n_then (x_seq (x_region ?_)))))
  refine s_val rfl (v_fieldAddr rfl Tryz.underlying29 rfl Tryz.sizeOf24 rfl (by first | exact Nat.zero_add _ | rfl)) ?_
  refine s_val rfl (v_load Tryz.isAgg24 rfl (cell_own rfl)) ?_
  refine s_do rfl (d_call Tryz.call124 rfl (dkNew_spec W0 _ c.ra c.rc c.rl (h.ok.r _) (by omega))) ?_
  rintro _ B_ ⟨p, Y, rfl, hB_, _, hY⟩
  obtain rfl := hB_.symm
  obtain ⟨db, rfl, rfl⟩ := hY x hx
  rw [hx, show (if (some x).isSome = true then (0 : Int) else 14) = 0 from rfl]
  simp only [List.cons_append, List.nil_append]
  refine s_val rfl (v_move rfl) (s_val rfl (v_extract rfl rfl) (s_val rfl (v_extract rfl rfl) (s_val rfl (v_assign rfl) (s_val rfl (v_assign rfl) (x_nil (n_then (x_seq (x_seq (x_region (s_val rfl (v_move rfl) (s_val rfl (v_neq rfl rfl) (x_nil (n_then ?_)))))))))))))
  refine x_if rfl ?_ ?_
  · intro c2
    exact absurd c2 (by decide)
  · intro c2
    refine x_skip (n_then (x_seq (x_seq (x_region (s_val rfl (v_move rfl) (s_val rfl (v_len_slice Tryz.underlying89 rfl) (s_val rfl (v_move rfl) (x_nil (n_then (x_block ?_))))))))))
    refine x_loop (fun _ : Unit => True) (fun _ => [(6, pV db), (20, .int .i64 0), (21, .int .i64 0)]) (fun _ => dkH db x :: R) (fun _ => 0) () ?_ ?_ ?_ ?_
    · trivial
    · repeat (first | exact sub_nil | refine sub_cons rfl ?_)
    · exact inferInstance
    · intro _ _
      refine x_seq (x_region (s_val rfl (v_lss rfl rfl) (x_nil (n_then (x_seq ?_)))))
      refine x_if rfl ?_ ?_
      · intro c5
        omega
      · intro c5
        refine x_exit (e_then (e_then (e_block (n_then (x_seq (x_region (s_val rfl (v_move rfl) (s_val rfl (v_assign rfl) (s_val rfl (v_assign rfl) (x_nil (n_then (x_ret (x_done (.inl rfl) (.cons (r_tmp rfl) (.cons (r_tmp rfl) .nil)) ?_)))))))))))))
        exact ⟨_, ⟨db, x, rfl, rfl⟩, inferInstance⟩
@[reducible] def hoV (c : Cfg) (ps pb db qb gb : Nat) : List Value := cfgV c ++ [pV ps, pV pb, pV db, pV qb, pV gb]
theorem hoNew_spec (W0 : World) (R : List HP) (c : Cfg) (h : CfK W0 c) (hr : rt c = true) :
    Spec Tryz.prog W0 19 [.agg (cfgV c).toArray, .slice none 0 0] R
      (fun v B => ∃ hb ps pb db qb gb x, v = .tuple #[pV hb, .int .i64 0] ∧ B = pt hb (cob (hoV c ps pb db qb gb) 68) :: stoH ps (List.replicate (nFr c) zeros) :: poH pb (ps, poI c (nFr c)) :: dkH db x :: portsH qb (newP c.pl) :: pt gb (gtO c.cats c.gate c.quota) :: R) := by
  have hck : ckE c = 0 := of_decide_eq_true hr
  have hfn : frN c = nFr c := by rw [frN, if_pos hr]
  have hf32 := frN_le c
  obtain ⟨q1, q2⟩ := nwB_yes (po_rt hr)
  obtain ⟨z1, z2, z3⟩ := gate_rt hr
  refine spec_body Tryz.func19 Tryz.ntmps19 rfl rfl ?_
  refine x_seq (x_region (s_do rfl (d_boxA rfl) ?_))
  rintro _ _ ⟨b2, rfl, rfl⟩
  refine s_val rfl (v_assign rfl) (s_val rfl (v_assign rfl) (x_nil (n_then (x_seq (x_seq (x_region (s_val rfl (v_loadAll Tryz.isAgg29 Tryz.sizeOf29 rfl rfl) ?_)))))))
  refine s_do rfl (d_call Tryz.call45 rfl (cfCheck_spec W0 _ c h.ok)) ?_
  rintro _ B_ ⟨at_, rfl, hB_⟩
  obtain rfl := hB_.symm
  rw [hck]
  refine s_val rfl (v_move rfl) (s_val rfl (v_extract rfl rfl) (s_val rfl (v_extract rfl rfl) (s_val rfl (v_assign rfl) (s_val rfl (v_assign rfl) (x_nil (n_then (x_seq (x_region (s_val rfl (v_move rfl) (s_val rfl (v_neq rfl rfl) (x_nil (n_then ?_))))))))))))
  refine x_if rfl ?_ ?_
  · intro c2
    exact absurd c2 (by decide)
  · intro c2
    refine x_skip (n_then (x_seq (x_region (s_val rfl (v_loadAll Tryz.isAgg29 Tryz.sizeOf29 rfl rfl) ?_))))
    refine s_val rfl (v_build Tryz.underlying68 Tryz.zeroValue68 (sized_cons Tryz.sizeOf29 (sized_cons Tryz.sizeOf63 (sized_cons Tryz.sizeOf64 (sized_cons Tryz.sizeOf65 (sized_cons Tryz.sizeOf66 (sized_cons Tryz.sizeOf55 sized_nil)))))) (fil_agg rfl Tryz.sizeOf29 rfl rfl (Nat.le_of_ble_eq_true rfl) SetRL.eq fil_nil)) ?_
    refine s_do rfl (d_boxA rfl) ?_
    rintro _ _ ⟨hb, rfl, rfl⟩
    refine s_val rfl (v_assign rfl) (x_nil (n_then (x_seq (x_region (s_val rfl (v_assign rfl) (x_nil (n_then (x_seq (x_seq (x_region (s_val rfl (v_move rfl) (s_val rfl (v_loadAll Tryz.isAgg29 Tryz.sizeOf29 rfl rfl) ?_))))))))))))
    refine s_do rfl (d_call Tryz.call47 rfl (cfFrames_spec W0 _ c h.ok)) ?_
    rintro _ B_ ⟨rfl, hB_⟩
    obtain rfl := hB_.symm
    rw [hfn]
    refine s_do rfl (d_call Tryz.call46 rfl (frNew_spec W0 _ (nFr c) (by omega))) ?_
    rintro _ B_ ⟨ps, rfl, hB_⟩
    obtain rfl := hB_.symm
    refine s_val rfl (v_move rfl) (s_val rfl (v_extract rfl rfl) (s_val rfl (v_extract rfl rfl) (s_val rfl (v_nilCheck rfl) ?_)))
    refine s_val rfl (v_fieldAddr rfl Tryz.underlying68 rfl Tryz.sizeOf63 rfl (by first | exact Nat.zero_add _ | rfl)) ?_
    refine s_do0 (d_store Tryz.sizeOf63 rfl rfl rfl (Nat.le_of_ble_eq_true rfl) SetL.eq) ?_
    rintro _ _ rfl
    refine s_val rfl (v_assign rfl) (x_nil (n_then (x_seq (x_region (s_val rfl (v_move rfl) (s_val rfl (v_neq rfl rfl) (x_nil (n_then ?_))))))))
    refine x_if rfl ?_ ?_
    · intro c7
      exact absurd c7 (by decide)
    · intro c7
      refine x_skip (n_then (x_seq (x_seq ?_)))
      refine x_draw [(b2, 0, _)] 14 mixed rfl (sc_own sc_end) (fun hS => ?_)
      refine d_take 0 rfl rfl (by kernel_rfl) (by kernel_rfl) (by kernel_rfl) rfl hS (v_move rfl) ?_
      refine d_take 1 rfl rfl (by kernel_rfl) (by kernel_rfl) (by kernel_rfl) rfl hS (v_loadAgg Tryz.isAgg29 Tryz.sizeOf29 rfl (cells_sc (k := 0) rfl) rfl) ?_
      refine d_take 2 rfl rfl (by kernel_rfl) (by kernel_rfl) (by kernel_rfl) rfl hS (v_move rfl) ?_
      refine d_take 3 rfl rfl (by kernel_rfl) (by kernel_rfl) (by kernel_rfl) rfl hS (v_nilCheck rfl) ?_
      refine d_take 4 rfl rfl (by kernel_rfl) (by kernel_rfl) (by kernel_rfl) rfl hS (v_fieldAddr rfl Tryz.underlying68 rfl Tryz.sizeOf63 rfl (by first | exact Nat.zero_add _ | rfl)) ?_
      refine d_one 5 (by kernel_rfl) rfl rfl (d_val (v_load Tryz.isAgg63 rfl (cell_own rfl))) rfl ?_; clear hS
      rintro _ _ ⟨rfl, rfl⟩
      refine ⟨(sc_own sc_end), fun hS => ?_⟩
      refine d_one 6 (by kernel_rfl) rfl rfl (d_call1 Tryz.call48 rfl (hoOwned_spec W0 _ c h hr ps)) rfl ?_; clear hS
      rintro _ B_ ⟨pb, rfl, hB_⟩
      obtain rfl := hB_.symm
      refine ⟨(sc_own sc_end), fun hS => ?_⟩
      refine d_take 7 rfl rfl (by kernel_rfl) (by kernel_rfl) (by kernel_rfl) rfl hS (v_move rfl) ?_
      refine d_take 8 rfl rfl (by kernel_rfl) (by kernel_rfl) (by kernel_rfl) rfl hS (v_extract rfl rfl) ?_
      refine d_take 9 rfl rfl (by kernel_rfl) (by kernel_rfl) (by kernel_rfl) rfl hS (v_extract rfl rfl) ?_
      refine d_take 10 rfl rfl (by kernel_rfl) (by kernel_rfl) (by kernel_rfl) rfl hS (v_nilCheck rfl) ?_
      refine d_take 11 rfl rfl (by kernel_rfl) (by kernel_rfl) (by kernel_rfl) rfl hS (v_fieldAddr rfl Tryz.underlying68 rfl Tryz.sizeOf64 rfl (by first | exact Nat.zero_add _ | rfl)) ?_
      refine d_one 12 (by kernel_rfl) rfl rfl (d_store Tryz.sizeOf64 rfl rfl rfl (Nat.le_of_ble_eq_true rfl) SetL.eq) rfl ?_; clear hS
      rintro _ _ rfl
      refine ⟨(sc_own sc_end), fun hS => ?_⟩
      refine d_take 13 rfl rfl (by kernel_rfl) (by kernel_rfl) (by kernel_rfl) rfl hS (v_assign rfl) ?_
      refine d_done (by kernel_rfl) ?_; clear hS
      refine n_then (x_seq (x_region (s_val rfl (v_move rfl) (s_val rfl (v_neq rfl rfl) (x_nil (n_then ?_))))))
      refine x_if rfl ?_ ?_
      · intro c10
        exact absurd c10 (by decide)
      · intro c10
        refine x_skip (n_then (x_seq (x_seq (x_region (s_val rfl (v_move rfl) (s_val rfl (v_loadAll Tryz.isAgg29 Tryz.sizeOf29 rfl rfl) ?_))))))
        refine s_val rfl (v_move rfl) (s_do rfl (d_call Tryz.call49 rfl (hoFilled_spec W0 _ c h hr)) ?_)
        rintro _ B_ ⟨db, x, rfl, hB_⟩
        obtain rfl := hB_.symm
        refine s_val rfl (v_move rfl) (s_val rfl (v_extract rfl rfl) (s_val rfl (v_extract rfl rfl) (s_val rfl (v_nilCheck rfl) ?_)))
        refine s_val rfl (v_fieldAddr rfl Tryz.underlying68 rfl Tryz.sizeOf65 rfl (by first | exact Nat.zero_add _ | rfl)) ?_
        refine s_do0 (d_store Tryz.sizeOf65 rfl rfl rfl (Nat.le_of_ble_eq_true rfl) SetL.eq) ?_
        rintro _ _ rfl
        refine s_val rfl (v_assign rfl) (x_nil (n_then (x_seq (x_region (s_val rfl (v_move rfl) (s_val rfl (v_neq rfl rfl) (x_nil (n_then ?_))))))))
        refine x_if rfl ?_ ?_
        · intro c13
          exact absurd c13 (by decide)
        · intro c13
          refine x_skip (n_then (x_seq (x_seq (x_region (s_val rfl (v_move rfl) ?_)))))
          refine s_val rfl (v_fieldAddr rfl Tryz.underlying29 rfl Tryz.sizeOf25 rfl (by first | exact Nat.zero_add _ | rfl)) ?_
          refine s_val rfl (v_load Tryz.isAgg25 rfl (cell_own rfl)) ?_
          refine s_do rfl (d_call Tryz.call50 rfl (prNew_spec W0 _ c.pl c.pa c.pl.length c.pc rfl q1 (h.ok.p _) q2)) ?_
          rintro _ B_ ⟨qb, rfl, hB_⟩
          obtain rfl := hB_.symm
          refine s_val rfl (v_move rfl) (s_val rfl (v_extract rfl rfl) (s_val rfl (v_extract rfl rfl) (s_val rfl (v_nilCheck rfl) ?_)))
          refine s_val rfl (v_fieldAddr rfl Tryz.underlying68 rfl Tryz.sizeOf66 rfl (by first | exact Nat.zero_add _ | rfl)) ?_
          refine s_do0 (d_store Tryz.sizeOf66 rfl rfl rfl (Nat.le_of_ble_eq_true rfl) SetL.eq) ?_
          rintro _ _ rfl
          refine s_val rfl (v_assign rfl) (x_nil (n_then (x_seq (x_region (s_val rfl (v_move rfl) (s_val rfl (v_neq rfl rfl) (x_nil (n_then ?_))))))))
          refine x_if rfl ?_ ?_
          · intro c16
            exact absurd c16 (by decide)
          · intro c16
            refine x_skip (n_then (x_seq (x_seq (x_region (s_val rfl (v_move rfl) ?_)))))
            refine s_val rfl (v_fieldAddr rfl Tryz.underlying29 rfl Tryz.sizeOf3 rfl (by first | exact Nat.zero_add _ | rfl)) ?_
            refine s_val rfl (v_load Tryz.isAgg3 rfl (cell_own rfl)) ?_
            refine s_val rfl (v_fieldAddr rfl Tryz.underlying29 rfl Tryz.sizeOf3 rfl (by first | exact Nat.zero_add _ | rfl)) ?_
            refine s_val rfl (v_load Tryz.isAgg3 rfl (cell_own rfl)) ?_
            refine s_val rfl (v_fieldAddr rfl Tryz.underlying29 rfl Tryz.sizeOf3 rfl (by first | exact Nat.zero_add _ | rfl)) ?_
            refine s_val rfl (v_load Tryz.isAgg3 rfl (cell_own rfl)) ?_
            refine s_do rfl (d_call Tryz.call51 rfl (gtNew_spec W0 _ c.cats c.gate c.quota z1 z2 z3)) ?_
            rintro _ B_ ⟨gb, rfl, hB_⟩
            obtain rfl := hB_.symm
            refine s_val rfl (v_move rfl) (s_val rfl (v_extract rfl rfl) (s_val rfl (v_extract rfl rfl) (s_val rfl (v_nilCheck rfl) ?_)))
            refine s_val rfl (v_fieldAddr rfl Tryz.underlying68 rfl Tryz.sizeOf55 rfl (by first | exact Nat.zero_add _ | rfl)) ?_
            refine s_do0 (d_store Tryz.sizeOf55 rfl rfl rfl (Nat.le_of_ble_eq_true rfl) SetL.eq) ?_
            rintro _ _ rfl
            refine s_val rfl (v_assign rfl) (x_nil (n_then (x_seq (x_region (s_val rfl (v_move rfl) (s_val rfl (v_neq rfl rfl) (x_nil (n_then ?_))))))))
            refine x_if rfl ?_ ?_
            · intro c19
              exact absurd c19 (by decide)
            · intro c19
              refine x_skip (n_then (x_seq (x_region (s_val rfl (v_move rfl) (s_val rfl (v_assign rfl) (s_val rfl (v_assign rfl) (x_nil (n_then (x_ret (run_pt (b := hb) (o' := cob (hoV c ps pb db qb gb) 68) rfl ?_))))))))))
              refine x_done (.inl rfl) (.cons (r_tmp rfl) (.cons (r_tmp rfl) .nil)) ?_
              exact ⟨_, ⟨hb, ps, pb, db, qb, gb, x, rfl, rfl⟩, inferInstance⟩
end Go.Proofs.YtnidndllknffgaaGreat
namespace Go.Proofs.YtnidndllknffgaaGreat
open Go.RowKit
set_option linter.unusedSimpArgs false
set_option linter.unusedVariables false
set_option maxRecDepth 20000
def f16 (b : List Nat) : List Value := (List.range 16).map fun i => bV (b.getD i 0)
@[reducible] def rdkO (bt : Nat) (aR : Option Addr) (n cR : Nat) (ys : List Value) : Obj := cob (.slice aR n cR :: .pointer (some ⟨bt, 0, none⟩) :: ys) 352
def rdkH (d : Nat) (x : Dk) : HP := chk (fun C => ∃ bt aR cR, ∃ (L : List Int) (rl : List Rn), (RT x.rs L ∧ L.length = 32 ∧ rl.map (fun r => r.1) = x.lb) ∧ C = [pt d (rdkO bt aR rl.length cR (x.ss.flatMap f16)), rtbH bt L, osl 144 3 (.slice aR rl.length cR) (rl.flatMap rgnV)])
section
variable {W0 : World} {N : FSz} {K : Act → World → Prop} {e : Env} {A B R R1 R2 R3 : List HP} {d : Nat} {x : Dk}
theorem ent_rdk {bt n cR : Nat} {aR : Option Addr} {L : List Int} {rl : List Rn} {ys zs : List Value} [h1 : Tk pt d A (rdkO bt aR n cR zs) R1] [h2 : Tk rtbH bt R1 L R2] [h3 : Tk (osl 144 3) (.slice aR n cR) R2 ys R3]
    (q1 : RT x.rs L) (q2 : L.length = 32) (q3 : rl.map (fun r => r.1) = x.lb) (e1 : zs = x.ss.flatMap f16) (e2 : ys = rl.flatMap rgnV) (e3 : n = rl.length) [k : Ent R3 B] : Ent A (rdkH d x :: B) := by
  subst e1; subst e2; subst e3
  have e : A.Perm ([pt d (rdkO bt aR rl.length cR (x.ss.flatMap f16)), rtbH bt L, osl 144 3 (.slice aR rl.length cR) (rl.flatMap rgnV)] ++ R3) := h1.perm.trans ((h2.perm.trans (h3.perm.cons _)).cons _)
  exact (Ent.ofPerm e).trans ((ent_chk (R := R3) ⟨bt, aR, cR, L, rl, ⟨q1, q2, q3⟩, rfl⟩).trans (Ent.cons k))
end
theorem rgnV_len (x : Rn) : (rgnV x).length = 3 := rfl
theorem rgns_one (l : List Rn) : allOne (l.flatMap rgnV) = true := by
  induction l with
  | nil => rfl
  | cons x l ih => rw [List.flatMap_cons, allOne, List.all_append, Bool.and_eq_true]; exact ⟨rfl, ih⟩
theorem zDisk24 : ∀ w, (zeroValue 352).run Tryz.prog w = .ok (.agg (.slice none 0 0 :: .pointer none :: List.replicate 512 (.int .u8 0)).toArray) w := fun w => (Tryz.zeroValue352 w).trans (by kernel_rfl)
theorem dnK_lb (rs : List Rn) : ∀ {k : Nat} {y : List Rn × List Int}, k ≤ rs.length → dnK rs k = some y → y.2 = (rs.take k).map (fun r => r.1)
  | 0, y, _, h => by cases h; rfl
  | k + 1, y, hk, h => by
    rw [dnK] at h
    cases e : dnK rs k with
    | none => rw [e] at h; cases h
    | some z =>
      rw [e] at h
      have ih := dnK_lb rs (by omega) e
      have h' : (if isL (rs.getD k (0, 0, 0)).1 = true ∧ gvE z.1 32 (rs.getD k (0, 0, 0)).2.1 (rs.getD k (0, 0, 0)).2.2 k = 0 then some (gvR z.1 32 (rs.getD k (0, 0, 0)).2.1 (rs.getD k (0, 0, 0)).2.2 k, z.2 ++ [(rs.getD k (0, 0, 0)).1]) else none) = some y := h
      split at h'
      · cases h'
        rw [List.take_succ_eq_append_getElem (by omega), List.map_append, ← ih, show rs.getD k (0, 0, 0) = rs[k]'(by omega) by simp [List.getD, show k < rs.length by omega]]; rfl
      · cases h'
theorem rdNew_spec (W0 : World) (R : List HP) (a : Option Addr) (c : Nat) (rs : List Rn) (hs : SlA (OwnP W0 R) a 3 rgnV rs) (hl : rs.length < 9223372036854775808) (hb : ∀ x ∈ rs, -9223372036854775808 ≤ x.2.1 ∧ x.2.1 < 9223372036854775808) :
    Spec Tryz.prog W0 81 [.slice a rs.length c] R
      (fun v B => ∃ p Y, v = .tuple #[.pointer p, .int .i64 (if (dkNew rs).isSome then 0 else 14)] ∧ B = Y ++ R ∧ (dkNew rs = none → p = none ∧ Y = []) ∧ (∀ x, dkNew rs = some x → ∃ d, p = some ⟨d, 0, none⟩ ∧ Y = [rdkH d x])) := by
  refine spec_body Tryz.func81 Tryz.ntmps81 rfl rfl ?_
  refine x_seq (x_region (s_val rfl (v_assign rfl) (s_val rfl (v_assign rfl) (x_nil (n_then (x_seq (x_seq (x_region (s_val rfl (v_move rfl) (s_val rfl (v_len_slice Tryz.underlying24 rfl) (s_val rfl (v_gtr rfl rfl) (x_nil (n_then ?_)))))))))))))
  refine x_if rfl ?_ ?_
  · intro c1
    refine x_seq (x_region (s_val rfl (v_assign rfl) (s_val rfl (v_assign rfl) (x_nil (n_then (x_ret (r_then (x_done (.inl rfl) (.cons (r_tmp rfl) (.cons (r_tmp rfl) .nil)) ?_))))))))
    have hN : dkNew rs = none := by rw [dkNew, if_pos (by omega)]
    rw [hN]
    refine ⟨_, ⟨none, [], rfl, rfl, (fun _ => ⟨rfl, rfl⟩), (fun x hx => by cases hx)⟩, ?_⟩
    simp only [List.nil_append]
    exact inferInstance
  · intro c1
    refine x_skip (n_then (x_seq ?_))
    have h8 : rs.length ≤ 8 := by omega
    have hD : dkNew rs = (dnK rs rs.length).map fun y => ⟨y.1, y.2, List.replicate 32 z16⟩ := by rw [dkNew, if_neg (by omega)]
    refine x_region ?_
    refine s_do rfl (d_call Tryz.call194 rfl (rpNew_spec03 W0 _ 32 (by decide))) ?_
    rintro _ B_ ⟨bt, rfl, hB_⟩
    obtain rfl := hB_.symm
    refine s_val rfl (v_move rfl) (s_val rfl (v_extract rfl rfl) (s_val rfl (v_extract rfl rfl) (s_val rfl (v_assign rfl) (s_val rfl (v_assign rfl) (x_nil (n_then (x_seq (x_seq (x_region (s_val rfl (v_assign rfl) (x_nil (n_then (x_block ?_)))))))))))))
    refine x_loop (fun X : Nat × List Int => X.1 ≤ rs.length ∧ X.2.length = 32 ∧ ∃ y, dnK rs X.1 = some y ∧ RT y.1 X.2) (fun X => [(0, .slice a rs.length c), (4, .pointer (some ⟨bt, 0, none⟩)), (6, .int .i64 X.1)]) (fun X => rtbH bt X.2 :: R) (fun X => rs.length - X.1) (0, List.replicate 32 (-1)) ?_ ?_ ?_ ?_
    · exact ⟨Nat.zero_le _, rfl, _, rfl, rt_nil 32⟩
    · repeat (first | exact sub_nil | refine sub_cons rfl ?_)
    · exact inferInstance
    · intro ⟨k, L⟩ ⟨hk, hL, y, hdn, hRT⟩
      dsimp only at hk hL hdn hRT ⊢
      refine x_seq (x_seq (x_region (s_val rfl (v_move rfl) (s_val rfl (v_move rfl) (s_val rfl (v_len_slice Tryz.underlying24 rfl) (s_val rfl (v_lss rfl rfl) (x_nil (n_then ?_))))))))
      refine x_if rfl ?_ ?_
      · intro c5
        refine x_skip (n_then (x_seq (x_block (x_seq ?_))))
        have hk1 : k < rs.length := by omega
        obtain ⟨g, o, rfl, hc⟩ := hs.at_ hk1
        have hgk : rs.getD k (0, 0, 0) = rs[k] := by simp [List.getD, hk1]
        have hbk := hb _ (List.getElem_mem hk1)
        obtain ⟨x, hx⟩ : ∃ x, rs[k] = x := ⟨_, rfl⟩
        rw [hx] at hc hgk hbk
        have hst : dnK rs (k + 1) = if isL x.1 = true ∧ gvE y.1 32 x.2.1 x.2.2 k = 0 then some (gvR y.1 32 x.2.1 x.2.2 k, y.2 ++ [x.1]) else none := by
          rw [dnK, hdn, hgk]; rfl
        have hE := rt_e hRT (n := 32) (by rw [hL]; rfl) x.2.1 x.2.2 k
        refine x_draw [(g, o + k * 3, rgnV x)] 23 mixed rfl (sc_cons hc.weak sc_end) (fun hS => ?_)
        refine d_take 0 rfl rfl (by kernel_rfl) (by kernel_rfl) (by kernel_rfl) rfl hS (v_move rfl) ?_
        refine d_take 1 rfl rfl (by kernel_rfl) (by kernel_rfl) (by kernel_rfl) rfl hS (v_move rfl) ?_
        refine d_take 2 rfl rfl (by kernel_rfl) (by kernel_rfl) (by kernel_rfl) rfl hS (v_idx Tryz.underlying24 Tryz.sizeOf144 rfl rfl rfl hk1 (by first | exact Nat.zero_add _ | rfl)) ?_
        refine d_take 3 rfl rfl (by kernel_rfl) (by kernel_rfl) (by kernel_rfl) rfl hS (v_fieldAddr rfl Tryz.underlying144 rfl Tryz.sizeOf3 rfl (by first | exact Nat.zero_add _ | rfl)) ?_
        refine d_take 4 rfl rfl (by kernel_rfl) (by kernel_rfl) (by kernel_rfl) rfl hS (v_load Tryz.isAgg3 rfl (cell_sc (k := 0) (j := 0) rfl rfl)) ?_
        refine d_one 5 (by kernel_rfl) rfl rfl (d_call Tryz.call195 rfl (rlIs_spec W0 _ x.1)) rfl ?_; clear hS
        rintro _ B_ ⟨rfl, hB_⟩
        obtain rfl := hB_.symm
        refine ⟨(sc_cons hc.weak sc_end), fun hS => ?_⟩
        refine d_take 6 rfl rfl (by kernel_rfl) (by kernel_rfl) (by kernel_rfl) rfl hS (v_not rfl) ?_
        refine d_take 7 rfl rfl (by kernel_rfl) (by kernel_rfl) (by kernel_rfl) rfl hS (v_move rfl) ?_
        refine x_split (t := 27) rfl ?_ ?_
        · intro g7_8
          refine d_skip 8 rfl rfl (by kernel_rfl) (by kernel_rfl) (by kernel_rfl) rfl hS ?_
          refine d_skip 9 rfl rfl (by kernel_rfl) (by kernel_rfl) (by kernel_rfl) rfl hS ?_
          refine d_skip 10 rfl rfl (by kernel_rfl) (by kernel_rfl) (by kernel_rfl) rfl hS ?_
          refine d_skip 11 rfl rfl (by kernel_rfl) (by kernel_rfl) (by kernel_rfl) rfl hS ?_
          refine d_skip 12 rfl rfl (by kernel_rfl) (by kernel_rfl) (by kernel_rfl) rfl hS ?_
          refine d_skip 13 rfl rfl (by kernel_rfl) (by kernel_rfl) (by kernel_rfl) rfl hS ?_
          refine d_skip 14 rfl rfl (by kernel_rfl) (by kernel_rfl) (by kernel_rfl) rfl hS ?_
          refine d_skip 15 rfl rfl (by kernel_rfl) (by kernel_rfl) (by kernel_rfl) rfl hS ?_
          refine d_skip 16 rfl rfl (by kernel_rfl) (by kernel_rfl) (by kernel_rfl) rfl hS ?_
          refine d_skip 17 rfl rfl (by kernel_rfl) (by kernel_rfl) (by kernel_rfl) rfl hS ?_
          refine d_skip 18 rfl rfl (by kernel_rfl) (by kernel_rfl) (by kernel_rfl) rfl hS ?_
          refine d_skip 19 rfl rfl (by kernel_rfl) (by kernel_rfl) (by kernel_rfl) rfl hS ?_
          refine d_skip 20 rfl rfl (by kernel_rfl) (by kernel_rfl) (by kernel_rfl) rfl hS ?_
          refine d_skip 21 rfl rfl (by kernel_rfl) (by kernel_rfl) (by kernel_rfl) rfl hS ?_
          refine d_take 22 rfl rfl (by kernel_rfl) (by kernel_rfl) (by kernel_rfl) rfl hS (v_pick_t rfl rfl) ?_
          refine d_done (by kernel_rfl) ?_; clear hS
          refine n_then (x_ift rfl (x_seq (x_region (s_val rfl (v_assign rfl) (s_val rfl (v_assign rfl) (x_nil (n_then (x_ret (r_block (r_then (r_then (r_block (r_then (x_done (.inl rfl) (.cons (r_tmp rfl) (.cons (r_tmp rfl) .nil)) ?_))))))))))))))
          have hS : dnK rs (k + 1) = none := by
            rw [hst, if_neg]
            rintro ⟨q1, q2⟩
            rw [← hE] at q2
            simp_all
          have hN : dkNew rs = none := by rw [hD, dnK_stop hS hk1]; rfl
          rw [hN]
          refine ⟨_, ⟨none, [], rfl, rfl, (fun _ => ⟨rfl, rfl⟩), (fun x hx => by cases hx)⟩, ?_⟩
          simp only [List.nil_append]
          exact inferInstance
        · intro g7_8
          refine d_take 8 rfl rfl (by kernel_rfl) (by kernel_rfl) (by kernel_rfl) rfl hS (v_move rfl) ?_
          refine d_take 9 rfl rfl (by kernel_rfl) (by kernel_rfl) (by kernel_rfl) rfl hS (v_move rfl) ?_
          refine d_take 10 rfl rfl (by kernel_rfl) (by kernel_rfl) (by kernel_rfl) rfl hS (v_move rfl) ?_
          refine d_take 11 rfl rfl (by kernel_rfl) (by kernel_rfl) (by kernel_rfl) rfl hS (v_idx Tryz.underlying24 Tryz.sizeOf144 rfl rfl rfl hk1 (by first | exact Nat.zero_add _ | rfl)) ?_
          refine d_take 12 rfl rfl (by kernel_rfl) (by kernel_rfl) (by kernel_rfl) rfl hS (v_fieldAddr rfl Tryz.underlying144 rfl Tryz.sizeOf3 rfl (by first | exact Nat.zero_add _ | rfl)) ?_
          refine d_take 13 rfl rfl (by kernel_rfl) (by kernel_rfl) (by kernel_rfl) rfl hS (v_load Tryz.isAgg3 rfl (cell_sc (k := 0) (j := 1) rfl rfl)) ?_
          refine d_take 14 rfl rfl (by kernel_rfl) (by kernel_rfl) (by kernel_rfl) rfl hS (v_move rfl) ?_
          refine d_take 15 rfl rfl (by kernel_rfl) (by kernel_rfl) (by kernel_rfl) rfl hS (v_move rfl) ?_
          refine d_take 16 rfl rfl (by kernel_rfl) (by kernel_rfl) (by kernel_rfl) rfl hS (v_idx Tryz.underlying24 Tryz.sizeOf144 rfl rfl rfl hk1 (by first | exact Nat.zero_add _ | rfl)) ?_
          refine d_take 17 rfl rfl (by kernel_rfl) (by kernel_rfl) (by kernel_rfl) rfl hS (v_fieldAddr rfl Tryz.underlying144 rfl Tryz.sizeOf3 rfl (by first | exact Nat.zero_add _ | rfl)) ?_
          refine d_take 18 rfl rfl (by kernel_rfl) (by kernel_rfl) (by kernel_rfl) rfl hS (v_load Tryz.isAgg3 rfl (cell_sc (k := 0) (j := 2) rfl rfl)) ?_
          refine d_take 19 rfl rfl (by kernel_rfl) (by kernel_rfl) (by kernel_rfl) rfl hS (v_move rfl) ?_
          refine d_one 20 (by kernel_rfl) rfl rfl (d_call1 Tryz.call196 rfl (rpGive_spec W0 _ bt L (by omega) x.2.1 x.2.2 k)) rfl ?_; clear hS
          rintro _ B_ ⟨rfl, hB_⟩
          obtain rfl := hB_.symm
          refine ⟨(sc_cons hc.weak sc_end), fun hS => ?_⟩
          refine d_take 21 rfl rfl (by kernel_rfl) (by kernel_rfl) (by kernel_rfl) rfl hS (v_neq rfl rfl) ?_
          refine d_take 22 rfl rfl (by kernel_rfl) (by kernel_rfl) (by kernel_rfl) rfl hS (v_pick_f rfl rfl) ?_
          refine d_done (by kernel_rfl) ?_; clear hS
          refine n_then ?_
          refine x_if rfl ?_ ?_
          · intro c7
            refine x_seq (x_region (s_val rfl (v_assign rfl) (s_val rfl (v_assign rfl) (x_nil (n_then (x_ret (r_block (r_then (r_then (r_block (r_then (x_done (.inl rfl) (.cons (r_tmp rfl) (.cons (r_tmp rfl) .nil)) ?_))))))))))))
            have hS : dnK rs (k + 1) = none := by
              rw [hst, if_neg]
              rintro ⟨q1, q2⟩
              rw [← hE] at q2
              simp_all
            have hN : dkNew rs = none := by rw [hD, dnK_stop hS hk1]; rfl
            rw [hN]
            refine ⟨_, ⟨none, [], rfl, rfl, (fun _ => ⟨rfl, rfl⟩), (fun x hx => by cases hx)⟩, ?_⟩
            simp only [List.nil_append]
            exact inferInstance
          · intro c7
            refine x_skip (n_block (n_then ?_))
            have hgo : isL x.1 = true ∧ gvE y.1 32 x.2.1 x.2.2 k = 0 := by
              rw [← hE]; simp_all
            rw [if_pos hgo] at hst
            refine x_region (s_val rfl (v_move rfl) ?_)
            refine s_val rfl (v_add rfl rfl (by first | exact w64 (by omega) | rfl)) ?_
            refine s_val rfl (v_assign rfl) (x_nil (n_then ?_))
            refine inv_intro (k + 1, rpS L x.2.1 x.2.2 k) ?_ ?_ ?_ ?_
            · exact ⟨by omega, rpS_len.trans hL, _, hst, rt_s hRT (by rw [hL]; rfl) (by decide) _ _ _⟩
            · omega
            · repeat (first | exact sub_nil | refine sub_cons rfl ?_)
            · exact inferInstance
      · intro c5
        refine x_exit (e_then (e_then (e_block (n_then (x_seq ?_)))))
        obtain rfl : k = rs.length := by omega
        refine x_region (s_do rfl (d_slice0 Tryz.underlying24 Tryz.sizeOf144 rfl) ?_)
        rintro _ _ ⟨be, rfl, rfl⟩
        refine s_val rfl (v_move rfl) ?_
        refine s_do rfl (d_appendS (sz := 3) (by_ := 24) (info := Tryz.t144) Tryz.underlying24 (by kernel_rfl) rfl rfl rfl rfl (by decide) rfl rfl ((hs.weak.src rgnV_len (fun _ => trivial)).imp (fun h => by rw [h]; rfl) (fun h => h)) (flat_len rgnV_len rs) (rgns_one rs) (by simp only [maxLen]; omega) (by omega)) ?_
        rintro _ _ ⟨aN, cN, rfl, rfl⟩
        rw [List.nil_append, Nat.zero_add]
        refine s_val rfl (v_move rfl) ?_
        refine s_val rfl (v_build (l' := .slice aN rs.length cN :: .pointer (some ⟨bt, 0, none⟩) :: List.replicate 512 (.int .u8 0)) Tryz.underlying352 zDisk24 (sized_cons Tryz.sizeOf24 (sized_cons Tryz.sizeOf345 (sized_cons Tryz.sizeOf350 sized_nil))) (fil_scal rfl Tryz.sizeOf24 rfl rfl (by simp) rfl (fil_scal rfl Tryz.sizeOf345 rfl rfl (by simp) rfl fil_nil))) ?_
        refine s_do rfl (d_boxA rfl) ?_
        rintro _ _ ⟨d, rfl, rfl⟩
        refine s_val rfl (v_assign rfl) (s_val rfl (v_assign rfl) (x_nil (n_then (x_ret (x_done (.inl rfl) (.cons (r_tmp rfl) (.cons (r_tmp rfl) .nil)) ?_)))))
        have hN : dkNew rs = some ⟨y.1, y.2, List.replicate 32 z16⟩ := by rw [hD, hdn]; rfl
        rw [hN]
        refine ⟨_, ⟨_, [rdkH d ⟨y.1, y.2, List.replicate 32 z16⟩], rfl, rfl, (fun q => by cases q), (fun x hx => by cases hx; exact ⟨d, rfl, rfl⟩)⟩, ?_⟩
        simp only [List.cons_append, List.nil_append]
        exact ent_rdk (x := ⟨y.1, y.2, List.replicate 32 z16⟩) (rl := rs) hRT hL (by rw [dnK_lb rs (Nat.le_refl _) hdn, List.take_of_length_le (Nat.le_refl _)]) (by kernel_rfl) rfl rfl
end Go.Proofs.YtnidndllknffgaaGreat
namespace Go.Proofs.YtnidndllknffgaaGreat
open Go.RowKit
set_option linter.unusedSimpArgs false
set_option linter.unusedVariables false
set_option maxRecDepth 20000
theorem rgtNew_spec (W0 : World) (R : List HP) (cats who quota : Int) (h1 : 0 ≤ cats ∧ cats ≤ 8) (h2 : -1 ≤ who ∧ who < 4) (h3 : 0 ≤ quota ∧ quota ≤ 64) : Spec Tryz.prog W0 84 [.int .i64 cats, .int .i64 who, .int .i64 quota] R (fun v B => ∃ b, v = .tuple #[pV b, .int .i64 0] ∧ B = R) := by
  refine spec_body Tryz.func84 Tryz.ntmps84 rfl rfl ?_
  refine x_seq (x_region (s_val rfl (v_assign rfl) (s_val rfl (v_assign rfl) (x_nil (n_then (x_seq (x_seq (x_region (s_val rfl (v_move rfl) (s_val rfl (v_lss rfl rfl) (s_val rfl (v_move rfl) ?_)))))))))))
  refine s_or rfl rfl rfl ?_ ?_
  · intro g1_3
    omega
  · intro g1_3
    refine s_val rfl (v_move rfl) (s_yes rfl rfl (s_val rfl (v_gtr rfl rfl) (s_val rfl (v_pick_f rfl rfl) (s_val rfl (v_move rfl) ?_))))
    refine s_or rfl rfl rfl ?_ ?_
    · intro g1_7
      omega
    · intro g1_7
      refine s_val rfl (v_move rfl) (s_yes rfl rfl (s_val rfl (v_lss rfl rfl) (s_val rfl (v_pick_f rfl rfl) (s_val rfl (v_move rfl) ?_))))
      refine s_or rfl rfl rfl ?_ ?_
      · intro g1_11
        omega
      · intro g1_11
        refine s_val rfl (v_move rfl) (s_yes rfl rfl (s_val rfl (v_geq rfl rfl) (s_val rfl (v_pick_f rfl rfl) (s_val rfl (v_move rfl) ?_))))
        refine s_or rfl rfl rfl ?_ ?_
        · intro g1_15
          omega
        · intro g1_15
          refine s_val rfl (v_move rfl) (s_yes rfl rfl (s_val rfl (v_lss rfl rfl) (s_val rfl (v_pick_f rfl rfl) (s_val rfl (v_move rfl) ?_))))
          refine s_or rfl rfl rfl ?_ ?_
          · intro g1_19
            omega
          · intro g1_19
            refine s_val rfl (v_move rfl) (s_yes rfl rfl (s_val rfl (v_gtr rfl rfl) (s_val rfl (v_pick_f rfl rfl) (x_nil (n_then ?_)))))
            refine x_if rfl ?_ ?_
            · intro c1
              omega
            · intro c1
              refine x_skip (n_then (x_seq (x_region (s_val rfl (v_move rfl) (s_val rfl (v_move rfl) (s_val rfl (v_move rfl) (s_val rfl (v_build Tryz.underlying359 Tryz.zeroValue359 (sized_cons Tryz.sizeOf3 (sized_cons Tryz.sizeOf3 (sized_cons Tryz.sizeOf3 (sized_cons Tryz.sizeOf54 (sized_cons Tryz.sizeOf3 sized_nil))))) (fil_scal rfl Tryz.sizeOf3 rfl rfl (Nat.le_of_ble_eq_true rfl) SetL.eq (fil_scal rfl Tryz.sizeOf3 rfl rfl (Nat.le_of_ble_eq_true rfl) SetL.eq (fil_scal rfl Tryz.sizeOf3 rfl rfl (Nat.le_of_ble_eq_true rfl) SetL.eq fil_nil)))) ?_)))))))
              refine s_do rfl (d_boxA rfl) ?_
              rintro _ _ ⟨b, rfl, rfl⟩
              refine s_val rfl (v_assign rfl) (s_val rfl (v_assign rfl) (x_nil (n_then (x_ret (x_done (.inl rfl) (.cons (r_tmp rfl) (.cons (r_tmp rfl) .nil)) ?_)))))
              exact ⟨_, ⟨b, rfl, rfl⟩, inferInstance⟩
@[reducible] def rhV (c : Cfg) (qs pb : Nat) (x y z : Nat) : List Value := cfgV c ++ [pV qs, pV pb, pV x, pV y, pV z]
theorem rhNew_spec (W0 : World) (R : List HP) (c : Cfg) (h : CfK W0 c) (hr : rt c = true) :
    Spec Tryz.prog W0 32 [.agg (cfgV c).toArray, .slice none 0 0] R
      (fun v B => ∃ wb qs pb x y z, v = .tuple #[pV wb, .int .i64 0] ∧ B = pt wb (cob (rhV c qs pb x y z) 110) :: rpoH pb (qs, poI c (nFr c)) :: rstoH qs (List.replicate (nFr c) zeros) :: R) := by
  have hck : ckE c = 0 := of_decide_eq_true hr
  have hfn : frN c = nFr c := by rw [frN, if_pos hr]
  have hf32 := frN_le c
  have hR := cfR hr
  have hnd := hR.nd
  have hg4 := hR.g4
  have hn : 0 < nFr c ∧ nFr c ≤ 32 := by rw [nFr]; omega
  have hlr : (List.replicate (nFr c) zeros).length = nFr c := by simp
  obtain ⟨z1, z2, z3⟩ := gate_rt hr
  obtain ⟨dx, hdx⟩ := dk_rt hr
  obtain ⟨hrl, hrb⟩ := raW_no (rt_yes hr).2.2.2.1
  have hpo := po_rt hr
  refine spec_body Tryz.func32 Tryz.ntmps32 rfl rfl ?_
  refine x_seq (x_region (s_do rfl (d_boxA rfl) ?_))
  rintro _ _ ⟨b2, rfl, rfl⟩
  refine s_val rfl (v_assign rfl) (s_val rfl (v_assign rfl) (x_nil (n_then (x_seq (x_region (s_val rfl (v_loadAll Tryz.isAgg29 Tryz.sizeOf29 rfl rfl) ?_))))))
  refine s_do rfl (d_call Tryz.call75 rfl (rcCheck_spec W0 _ c h.ok)) ?_
  rintro _ B_ ⟨at_, rfl, hB_⟩
  obtain rfl := hB_.symm
  rw [hck]
  refine s_val rfl (v_move rfl) (s_val rfl (v_extract rfl rfl) (s_val rfl (v_extract rfl rfl) (s_val rfl (v_assign rfl) (s_val rfl (v_assign rfl) (x_nil (n_then (x_seq (x_seq (x_region (s_val rfl (v_move rfl) (s_val rfl (v_neq rfl rfl) (x_nil (n_then ?_)))))))))))))
  refine x_if rfl ?_ ?_
  · intro c2
    exact absurd c2 (by decide)
  · intro c2
    refine x_skip (n_then (x_seq (x_region (s_val rfl (v_loadAll Tryz.isAgg29 Tryz.sizeOf29 rfl rfl) ?_))))
    refine s_do rfl (d_call Tryz.call77 rfl (rcFrames_spec W0 _ c h.ok)) ?_
    rintro _ B_ ⟨rfl, hB_⟩
    obtain rfl := hB_.symm
    rw [hfn]
    refine s_do rfl (d_call Tryz.call76 rfl (rfNew_spec W0 _ (nFr c) (by omega))) ?_
    rintro _ B_ ⟨qs, rfl, hB_⟩
    obtain rfl := hB_.symm
    refine s_val rfl (v_move rfl) (s_val rfl (v_extract rfl rfl) (s_val rfl (v_extract rfl rfl) (s_val rfl (v_assign rfl) (s_val rfl (v_assign rfl) (x_nil (n_then (x_seq (x_region (s_val rfl (v_move rfl) ?_)))))))))
    refine s_do rfl (d_call1 Tryz.call78 rfl (rpoNew_spec W0 _ qs (List.replicate (nFr c) zeros) (by rw [hlr]; omega) (by rw [hlr]; omega))) ?_
    rintro _ B_ ⟨pb, rfl, hB_⟩
    obtain rfl := hB_.symm
    rw [hlr, ← poI_zero]
    refine s_val rfl (v_move rfl) (s_val rfl (v_extract rfl rfl) (s_val rfl (v_extract rfl rfl) (s_val rfl (v_assign rfl) (s_val rfl (v_assign rfl) (x_nil (n_then (x_seq (x_seq (x_region (s_val rfl (v_assign rfl) (x_nil (n_then (x_block ?_)))))))))))))
    refine x_loop (fun f : Nat => f ≤ nFr c) (fun f => [(1, .slice none 0 0), (2, pV b2), (8, pV qs), (10, pV pb), (12, .int .i64 f)]) (fun f => pt b2 (cfO c) :: rpoH pb (qs, poI c f) :: rstoH qs (List.replicate (nFr c) zeros) :: R) (fun f => nFr c - f) 0 ?_ ?_ ?_ ?_
    · exact Nat.zero_le _
    · repeat (first | exact sub_nil | refine sub_cons rfl ?_)
    · exact inferInstance
    · intro f hf
      refine x_seq (x_seq ?_)
      refine run_rsto (qs := qs) fun a2 c2 vs hv => ?_
      rw [hlr]
      refine x_region (s_val rfl (v_move rfl) (s_val rfl (v_move rfl) (s_val rfl (v_nilCheck rfl) ?_)))
      refine s_val rfl (v_fieldAddr rfl Tryz.underlying193 rfl Tryz.sizeOf191 rfl (by first | exact Nat.zero_add _ | rfl)) ?_
      refine s_val rfl (v_load Tryz.isAgg191 rfl (cell_own rfl)) ?_
      refine s_val rfl (v_len_slice Tryz.underlying191 rfl) (s_val rfl (v_lss rfl rfl) (x_nil (n_then ?_)))
      refine x_if rfl ?_ ?_
      · intro c7
        refine x_skip (n_then ?_)
        refine x_cut (fun _ : Unit => f < nFr c) (fun _ => [(1, .slice none 0 0), (2, pV b2), (8, pV qs), (10, pV pb), (12, .int .i64 f)]) (fun _ => pt b2 (cfO c) :: rpoH pb (qs, poI c (f + 1)) :: rstoH qs (List.replicate (nFr c) zeros) :: R) ?_ ?_
        · skip
          refine x_block (x_seq ?_)
          have hf1 : f < nFr c := by omega
          refine run_ent (B := rstoH qs (List.replicate (nFr c) zeros) :: pt b2 (cfO c) :: rpoH pb (qs, poI c f) :: R) (by have := ent_rstoD (R := pt b2 (cfO c) :: rpoH pb (qs, poI c f) :: R) (qs := qs) (c := c2) (a := a2) hv; rw [hlr] at this; exact this) ?_
          have hos := ownV_some (i := (ownO c f).getD 0) hr hf1
          have hon := ownV_none hr hf1
          refine x_region (s_val rfl (v_loadAll Tryz.isAgg29 Tryz.sizeOf29 rfl rfl) ?_)
          refine s_val rfl (v_move rfl) ?_
          refine s_do rfl (d_call Tryz.call79 rfl (rcOwner_spec W0 _ c h f hr (by rw [nFr] at hf1; omega))) ?_
          rintro _ B_ ⟨rfl, hB_⟩
          obtain rfl := hB_.symm
          refine s_do rfl (d_allocA Tryz.zeroValue195) ?_
          rintro _ _ ⟨b9, rfl, rfl⟩
          refine s_do0 (d_storeAll Tryz.sizeOf195 rfl rfl rfl rfl rfl) ?_
          rintro _ _ rfl
          refine x_nil (n_then (x_seq (x_region ?_)))
          refine s_val rfl (v_fieldAddr rfl Tryz.underlying195 rfl Tryz.sizeOf3 rfl (by first | exact Nat.zero_add _ | rfl)) ?_
          refine s_val rfl (v_load Tryz.isAgg3 rfl (cell_own rfl)) ?_
          refine s_val rfl (v_eql rfl rfl) (x_nil (n_then ?_))
          refine x_if rfl ?_ ?_
          · intro c10
            obtain ⟨i, hi⟩ : ∃ i, ownO c f = some i := by
              cases e : ownO c f with
              | some i => exact ⟨i, rfl⟩
              | none => have := hon e; rw [this] at c10; exact absurd c10 (by decide)
            have hov := ownV_some hr hf1 hi
            have hi4 := ((ownO_some hR).1 hi).1
            have hps := poI_some hf1 hi
            refine x_region (s_val rfl (v_move rfl) (s_val rfl (v_move rfl) ?_))
            refine s_val rfl (v_fieldAddr rfl Tryz.underlying195 rfl Tryz.sizeOf3 rfl (by first | exact Nat.zero_add _ | rfl)) ?_
            refine s_val rfl (v_load Tryz.isAgg3 rfl (cell_own (by rw [hov]; rfl : (ownL (ownV c f))[1]? = some (.int .i64 (i : Int))))) ?_
            refine s_do rfl (d_call2 Tryz.call80 rfl (rpoOwn_spec W0 _ pb qs (poI c f) (List.replicate (nFr c) zeros) f i (by rw [poI_len]; exact hf1) (by rw [hlr]; exact hf1) (by omega) (by rw [poI_at hf1, if_neg (by omega)]))) ?_
            rintro _ B_ ⟨rfl, hB_⟩
            obtain rfl := hB_.symm
            rw [rep_set, ← hps]
            refine x_nil (n_block (n_then ?_))
            refine mid_intro () ?_ ?_ ?_
            · exact hf1
            · repeat (first | exact sub_nil | refine sub_cons rfl ?_)
            · exact inferInstance
          · intro c10
            have hps : poI c (f + 1) = poI c f := by
              cases e : ownO c f with
              | none => exact poI_none e
              | some i => have := ownV_some hr hf1 e; rw [this] at c10; exact absurd rfl c10
            refine x_skip (n_block (n_then ?_))
            refine mid_intro () ?_ ?_ ?_
            · exact hf1
            · repeat (first | exact sub_nil | refine sub_cons rfl ?_)
            · rw [hps]
              exact inferInstance
        · intro _ hf1
          refine x_region (s_val rfl (v_move rfl) ?_)
          refine s_val rfl (v_add rfl rfl (by first | exact w64 (by omega) | rfl)) ?_
          refine s_val rfl (v_assign rfl) (x_nil (n_then ?_))
          refine inv_intro (f + 1) ?_ ?_ ?_ ?_
          · omega
          · omega
          · repeat (first | exact sub_nil | refine sub_cons rfl ?_)
          · exact inferInstance
      · intro c7
        refine x_exit (e_then (e_then (e_block (n_then (x_seq ?_)))))
        obtain rfl : f = nFr c := by omega
        refine run_ent (B := rstoH qs (List.replicate (nFr c) zeros) :: pt b2 (cfO c) :: rpoH pb (qs, poI c (nFr c)) :: R) (by have := ent_rstoD (R := pt b2 (cfO c) :: rpoH pb (qs, poI c (nFr c)) :: R) (qs := qs) (c := c2) (a := a2) hv; rw [hlr] at this; exact this) ?_
        refine x_region ?_
        refine s_val rfl (v_fieldAddr rfl Tryz.underlying29 rfl Tryz.sizeOf24 rfl (by first | exact Nat.zero_add _ | rfl)) ?_
        refine s_val rfl (v_load Tryz.isAgg24 rfl (cell_own rfl)) ?_
        refine s_do rfl (d_call Tryz.call81 rfl (rdNew_spec W0 _ c.ra c.rc c.rl (h.ok.r _) (by omega) (fun x hx => by have := (hrb x hx).2; omega))) ?_
        rintro _ B_ ⟨p, Y, rfl, hB_, _, hY⟩
        obtain rfl := hB_.symm
        obtain ⟨db, rfl, rfl⟩ := hY dx hdx
        rw [hdx, show (if (some dx).isSome = true then (0 : Int) else 14) = 0 from rfl]
        simp only [List.cons_append, List.nil_append]
        refine s_val rfl (v_move rfl) (s_val rfl (v_extract rfl rfl) (s_val rfl (v_extract rfl rfl) (s_val rfl (v_assign rfl) (s_val rfl (v_assign rfl) (x_nil (n_then (x_seq (x_seq (x_region (s_val rfl (v_assign rfl) (x_nil (n_then (x_block ?_)))))))))))))
        refine x_loop (fun _ : Unit => True) (fun _ => [(1, .slice none 0 0), (2, pV b2), (8, pV qs), (10, pV pb), (14, pV db), (16, .int .i64 0)]) (fun _ => pt b2 (cfO c) :: rpoH pb (qs, poI c (nFr c)) :: rstoH qs (List.replicate (nFr c) zeros) :: R) (fun _ => 0) () ?_ ?_ ?_ ?_
        · trivial
        · repeat (first | exact sub_nil | refine sub_cons rfl ?_)
        · exact inferInstance
        · intro _ _
          refine x_seq (x_seq (x_region (s_val rfl (v_move rfl) (s_val rfl (v_move rfl) (s_val rfl (v_len_slice Tryz.underlying89 rfl) (s_val rfl (v_lss rfl rfl) (x_nil (n_then ?_))))))))
          refine x_if rfl ?_ ?_
          · intro c14
            omega
          · intro c14
            refine x_exit (e_then (e_then (e_block (n_then (x_seq (x_region ?_))))))
            refine s_val rfl (v_fieldAddr rfl Tryz.underlying29 rfl Tryz.sizeOf25 rfl (by first | exact Nat.zero_add _ | rfl)) ?_
            refine s_val rfl (v_load Tryz.isAgg25 rfl (cell_own rfl)) ?_
            refine s_do rfl (d_call Tryz.call83 rfl (rpNew_spec W0 _ c.pl c.pa c.pl.length c.pc rfl (h.ok.p _))) ?_
            rintro _ B_ (⟨_, qb, rfl, hB_⟩ | ⟨hno, _, _⟩)
            rotate_left
            · rw [hpo] at hno; cases hno
            obtain rfl := hB_.symm
            refine s_val rfl (v_move rfl) (s_val rfl (v_extract rfl rfl) (s_val rfl (v_extract rfl rfl) (s_val rfl (v_assign rfl) (s_val rfl (v_assign rfl) (x_nil (n_then (x_seq (x_region ?_))))))))
            refine s_val rfl (v_fieldAddr rfl Tryz.underlying29 rfl Tryz.sizeOf3 rfl (by first | exact Nat.zero_add _ | rfl)) ?_
            refine s_val rfl (v_load Tryz.isAgg3 rfl (cell_own rfl)) ?_
            refine s_val rfl (v_fieldAddr rfl Tryz.underlying29 rfl Tryz.sizeOf3 rfl (by first | exact Nat.zero_add _ | rfl)) ?_
            refine s_val rfl (v_load Tryz.isAgg3 rfl (cell_own rfl)) ?_
            refine s_val rfl (v_fieldAddr rfl Tryz.underlying29 rfl Tryz.sizeOf3 rfl (by first | exact Nat.zero_add _ | rfl)) ?_
            refine s_val rfl (v_load Tryz.isAgg3 rfl (cell_own rfl)) ?_
            refine s_do rfl (d_call Tryz.call84 rfl (rgtNew_spec W0 _ c.cats c.gate c.quota z1 z2 z3)) ?_
            rintro _ B_ ⟨gb, rfl, hB_⟩
            obtain rfl := hB_.symm
            refine s_val rfl (v_move rfl) (s_val rfl (v_extract rfl rfl) (s_val rfl (v_extract rfl rfl) (s_val rfl (v_assign rfl) (s_val rfl (v_assign rfl) (x_nil (n_then (x_seq (x_region (s_val rfl (v_loadAll Tryz.isAgg29 Tryz.sizeOf29 rfl rfl) ?_)))))))))
            refine s_val rfl (v_move rfl) (s_val rfl (v_move rfl) (s_val rfl (v_move rfl) (s_val rfl (v_move rfl) (s_val rfl (v_move rfl) (s_val rfl (v_build Tryz.underlying110 Tryz.zeroValue110 (sized_cons Tryz.sizeOf29 (sized_cons Tryz.sizeOf104 (sized_cons Tryz.sizeOf105 (sized_cons Tryz.sizeOf106 (sized_cons Tryz.sizeOf107 (sized_cons Tryz.sizeOf108 sized_nil)))))) (fil_agg rfl Tryz.sizeOf29 rfl rfl (Nat.le_of_ble_eq_true rfl) SetRL.eq (fil_scal rfl Tryz.sizeOf104 rfl rfl (Nat.le_of_ble_eq_true rfl) SetL.eq (fil_scal rfl Tryz.sizeOf105 rfl rfl (Nat.le_of_ble_eq_true rfl) SetL.eq (fil_scal rfl Tryz.sizeOf106 rfl rfl (Nat.le_of_ble_eq_true rfl) SetL.eq (fil_scal rfl Tryz.sizeOf107 rfl rfl (Nat.le_of_ble_eq_true rfl) SetL.eq (fil_scal rfl Tryz.sizeOf108 rfl rfl (Nat.le_of_ble_eq_true rfl) SetL.eq fil_nil))))))) ?_)))))
            refine s_do rfl (d_boxA rfl) ?_
            rintro _ _ ⟨wb, rfl, rfl⟩
            refine s_val rfl (v_assign rfl) (s_val rfl (v_assign rfl) (x_nil (n_then (x_ret (x_done (.inl rfl) (.cons (r_tmp rfl) (.cons (r_tmp rfl) .nil)) ?_)))))
            exact ⟨_, ⟨wb, qs, pb, db, qb, gb, rfl, rfl⟩, inferInstance⟩
end Go.Proofs.YtnidndllknffgaaGreat
namespace Go.Proofs.YtnidndllknffgaaGreat
open Go.RowKit
set_option linter.unusedSimpArgs false
set_option linter.unusedVariables false
set_option maxRecDepth 20000
theorem hoNone_spec (W0 : World) (R : List HP) (hb : Nat) (c : Cfg) (ps pb db qb gb : Nat) : Spec Tryz.prog W0 36 [pV hb] (pt hb (cob (hoV c ps pb db qb gb) 68) :: R) (fun v B => v = .bool false ∧ B = pt hb (cob (hoV c ps pb db qb gb) 68) :: R) := by
  refine spec_body Tryz.func36 Tryz.ntmps36 rfl rfl ?_
  refine x_seq (x_region (s_val rfl (v_assign rfl) (x_nil (n_then (x_seq (x_region (s_val rfl (v_move rfl) (s_val rfl (v_eql_ptr_nil Tryz.underlying30 rfl rfl) (s_val rfl (v_move rfl) ?_)))))))))
  refine s_or rfl rfl rfl ?_ ?_
  · intro g1_3
    cases g1_3
  · intro g1_3
    refine s_val rfl (v_move rfl) (s_yes rfl rfl (s_val rfl (v_nilCheck rfl) (s_yes rfl rfl ?_)))
    refine s_val rfl (v_fieldAddr rfl Tryz.underlying68 rfl Tryz.sizeOf63 rfl (by first | exact Nat.zero_add _ | rfl)) ?_
    refine s_yes rfl rfl (s_val rfl (v_load Tryz.isAgg63 rfl (cell_own rfl)) ?_)
    refine s_yes rfl rfl (s_val rfl (v_eql_ptr_nil Tryz.underlying63 rfl rfl) (s_val rfl (v_pick_f rfl rfl) (s_val rfl (v_assign rfl) (x_nil (n_then (x_ret (x_done (.inl rfl) (.cons (r_tmp rfl) .nil) ?_)))))))
    exact ⟨_, ⟨rfl, rfl⟩, inferInstance⟩
theorem hoStore_spec (W0 : World) (R : List HP) (hb : Nat) (c : Cfg) (ps pb db qb gb : Nat) : Spec Tryz.prog W0 21 [pV hb] (pt hb (cob (hoV c ps pb db qb gb) 68) :: R) (fun v B => v = pV ps ∧ B = pt hb (cob (hoV c ps pb db qb gb) 68) :: R) := by
  refine spec_body Tryz.func21 Tryz.ntmps21 rfl rfl ?_
  refine x_seq (x_region (s_val rfl (v_assign rfl) (x_nil (n_then (x_seq (x_seq (x_region (s_val rfl (v_move rfl) (s_do rfl (d_call1 Tryz.call36 rfl (hoNone_spec W0 _ hb c ps pb db qb gb)) ?_)))))))))
  rintro _ B_ ⟨rfl, hB_⟩
  obtain rfl := hB_.symm
  refine x_nil (n_then ?_)
  refine x_if rfl ?_ ?_
  · intro c1
    exact absurd c1 (by decide)
  · intro c1
    refine x_skip (n_then (x_seq (x_region (s_val rfl (v_move rfl) (s_val rfl (v_nilCheck rfl) ?_)))))
    refine s_val rfl (v_fieldAddr rfl Tryz.underlying68 rfl Tryz.sizeOf63 rfl (by first | exact Nat.zero_add _ | rfl)) ?_
    refine s_val rfl (v_load Tryz.isAgg63 rfl (cell_own rfl)) ?_
    refine s_val rfl (v_assign rfl) (x_nil (n_then (x_ret (x_done (.inl rfl) (.cons (r_tmp rfl) .nil) ?_))))
    exact ⟨_, ⟨rfl, rfl⟩, inferInstance⟩
theorem hoPool_spec (W0 : World) (R : List HP) (hb : Nat) (c : Cfg) (ps pb db qb gb : Nat) : Spec Tryz.prog W0 22 [pV hb] (pt hb (cob (hoV c ps pb db qb gb) 68) :: R) (fun v B => v = pV pb ∧ B = pt hb (cob (hoV c ps pb db qb gb) 68) :: R) := by
  refine spec_body Tryz.func22 Tryz.ntmps22 rfl rfl ?_
  refine x_seq (x_region (s_val rfl (v_assign rfl) (x_nil (n_then (x_seq (x_seq (x_region (s_val rfl (v_move rfl) (s_do rfl (d_call1 Tryz.call36 rfl (hoNone_spec W0 _ hb c ps pb db qb gb)) ?_)))))))))
  rintro _ B_ ⟨rfl, hB_⟩
  obtain rfl := hB_.symm
  refine x_nil (n_then ?_)
  refine x_if rfl ?_ ?_
  · intro c1
    exact absurd c1 (by decide)
  · intro c1
    refine x_skip (n_then (x_seq (x_region (s_val rfl (v_move rfl) (s_val rfl (v_nilCheck rfl) ?_)))))
    refine s_val rfl (v_fieldAddr rfl Tryz.underlying68 rfl Tryz.sizeOf64 rfl (by first | exact Nat.zero_add _ | rfl)) ?_
    refine s_val rfl (v_load Tryz.isAgg64 rfl (cell_own rfl)) ?_
    refine s_val rfl (v_assign rfl) (x_nil (n_then (x_ret (x_done (.inl rfl) (.cons (r_tmp rfl) .nil) ?_))))
    exact ⟨_, ⟨rfl, rfl⟩, inferInstance⟩
structure GC (rb vb pv tr : Nat) (cs : List Value) : Prop where
  len : cs.length = 28
  cr : cs[0]? = some (pV rb)
  cv : cs[6]? = some (pV vb)
  rd : ∀ k, k < 4 → ∃ n : Nat, n < 4294967296 ∧ cs[9 + k]? = some (wV n)
  cw : cs[24]? = some (pV pv)
  ct : cs[26]? = some (pV tr)
  cc : cs[27]? = some (.int .i64 0)
structure Gs where
  rl : List Nat
  pc : Nat
  es : List Evt
  fresh : Bool
def guH (gb : Nat) (x : Gs) : HP := chk (fun C => ∃ cs rb vb pv tr o, GC rb vb pv tr cs ∧ x.rl.length = 16 ∧ (x.fresh = true → o = vcO) ∧ C = [pt gb (cob cs 142), pt rb (rfO x.rl x.pc), trH tr x.es, pt vb o])
def gs0 : Gs := ⟨List.replicate 16 0, 0, [], true⟩
theorem ent_gu {R : List HP} {gb rb vb pv tr : Nat} {cs : List Value} {o : Obj} {x : Gs} (h : GC rb vb pv tr cs) (h1 : x.rl.length = 16) (h2 : x.fresh = true → o = vcO) : Ent (pt gb (cob cs 142) :: pt rb (rfO x.rl x.pc) :: trH tr x.es :: pt vb o :: R) (guH gb x :: R) :=
  ent_chk (R := R) (C := [_, _, _, _]) ⟨cs, rb, vb, pv, tr, o, h, h1, h2, rfl⟩
theorem run_gu {W0 : World} {N : FSz} {K : Act → World → Prop} {e : Env} {A R : List HP} {gb : Nat} {x : Gs} [hk : Tk guH gb A x R] (h : ∀ cs rb vb pv tr o, GC rb vb pv tr cs → x.rl.length = 16 → (x.fresh = true → o = vcO) → Run W0 N K e (pt gb (cob cs 142) :: pt rb (rfO x.rl x.pc) :: trH tr x.es :: pt vb o :: R)) : Run W0 N K e A :=
  run_tk (r := guH) (b := gb) (run_chk fun C hC => by obtain ⟨cs, rb, vb, pv, tr, o, h1, h2, h3, rfl⟩ := hC; exact h cs rb vb pv tr o h1 h2 h3)
theorem gc_new {x : Bd} {q0 q1 q2 : Nat} {c : Cfg} {i : Nat} {wv : Value} {pb pv bx tr : Nat} : GC x.r x.v pv tr (gsV0 x q0 q1 q2 c i wv pb pv bx tr) := ⟨rfl, rfl, rfl, fun k hk => ⟨0, by decide, by
  have : k = 0 ∨ k = 1 ∨ k = 2 ∨ k = 3 := by omega
  rcases this with rfl | rfl | rfl | rfl <;> rfl⟩, rfl, rfl, rfl⟩
theorem grp_snoc2 {l : List HP} {x : HP} {R : List HP} : Ent (x :: kH 2 (grp l) :: R) (kH 2 (grp (l ++ [x])) :: R) := grp_snoc (l := l) (x := x) (R := R)
theorem lay_nil {who : Nat} {x : Im} : ∀ n, (layI who [] n x).fr = x.fr
  | 0 => rfl
  | n + 1 => by
    rw [layI, stepI]
    split
    · show wrW _ (pgW [] n) 0 _ = _
      rw [show pgW [] n = [] by simp [pgW]]
      exact lay_nil n
    · exact lay_nil n
theorem laid_nil {c : Cfg} {i : Nat} {fr : List Frm} {po : Po} : (laid c i [] fr po).fr = fr := by
  rw [laid, show cutW [] (glA c i).2.1.toNat = [] by simp [cutW]]; exact lay_nil _
theorem laid_other {c : Cfg} {i j : Nat} {ws : List Nat} {fr : List Frm} {po : Po} (h : j ≠ i) : fre (laid c i ws fr po).po j = fre po j := layI_other h _
theorem guests_snoc {l : List Nat} {g : Nat} {R : List HP} : Ent (guH g gs0 :: kH 2 (grp (l.map fun g => guH g gs0)) :: R) (kH 2 (grp ((l ++ [g]).map fun g => guH g gs0)) :: R) := by
  rw [List.map_append]; exact grp_snoc2
abbrev mdH (c : Cfg) (hb ps pb db qb gb : Nat) (a : Option Addr) (cap : Nat) (gbs : List Nat) (R : List HP) : List HP := pt hb (cob (hoV c ps pb db qb gb) 68) :: pt gb (gtO c.cats c.gate c.quota) :: stoH ps (List.replicate (nFr c) zeros) :: osl 50 1 (.slice a gbs.length cap) (gbs.map pV) :: kH 2 (grp (gbs.map fun g => guH g gs0)) :: R
theorem ent_nilG {A B : List HP} (k : Ent A B) : Ent A (kH 2 (grp []) :: B) := (ent_shut (A := []) (R := A)).trans (Ent.cons k)
theorem ent_made0 {c : Cfg} {hb ps pb db qb gb wb qs rpb x y z b3 : Nat} {dk : Dk} {R : List HP} : Ent (pt wb (cob (rhV c qs rpb x y z) 110) :: rpoH rpb (qs, poI c (nFr c)) :: rstoH qs (List.replicate (nFr c) zeros) :: pt hb (cob (hoV c ps pb db qb gb) 68) :: stoH ps (List.replicate (nFr c) zeros) :: poH pb (ps, poI c (nFr c)) :: dkH db dk :: portsH qb (newP c.pl) :: pt gb (gtO c.cats c.gate c.quota) :: pt b3 (cfO c) :: R)
    (pt b3 (cfO c) :: mdH c hb ps pb db qb gb none 0 [] (poH pb (ps, poI c (nFr c)) :: pt wb (cob (rhV c qs rpb x y z) 110) :: rpoH rpb (qs, poI c (nFr c)) :: rstoH qs (List.replicate (nFr c) zeros) :: osl 101 1 (.slice none 0 0) [] :: R)) := by
  refine Ent.trans (B := pt b3 (cfO c) :: pt hb (cob (hoV c ps pb db qb gb) 68) :: pt gb (gtO c.cats c.gate c.quota) :: stoH ps (List.replicate (nFr c) zeros) :: poH pb (ps, poI c (nFr c)) :: pt wb (cob (rhV c qs rpb x y z) 110) :: rpoH rpb (qs, poI c (nFr c)) :: rstoH qs (List.replicate (nFr c) zeros) :: R) inferInstance ?_
  refine Ent.cons (Ent.cons (Ent.cons (Ent.cons ?_)))
  refine ent_osl_nil (E := 50) (sz := 1) (k := ?_)
  refine ent_nilG ?_
  exact Ent.cons (Ent.cons (Ent.cons (Ent.cons (ent_osl_nil (E := 101) (sz := 1)))))
theorem madeT_spec (W0 : World) (R : List HP) (c : Cfg) (h : CfK W0 c) (hr : rt c = true) :
    Spec Tryz.prog W0 12 [.agg (cfgV c).toArray, .slice none 0 0, .slice none 0 0] R
      (fun v B => ∃ hb ps pb db qb gb wb a cap a2 n2 cap2 gbs, gbs.length = c.gl.length ∧ v = .tuple #[pV hb, .slice a gbs.length cap, pV wb, .slice a2 n2 cap2, .bool true] ∧ B = mdH c hb ps pb db qb gb a cap gbs R) := by
  have hR := cfR hr
  have hnd := hR.nd
  have hg4 := hR.g4
  have hn : 0 < nFr c ∧ nFr c ≤ 32 := by rw [nFr]; omega
  have hlr : (List.replicate (nFr c) zeros).length = nFr c := by simp
  refine spec_body Tryz.func12 Tryz.ntmps12 rfl rfl ?_
  refine x_seq (x_region (s_do rfl (d_boxA rfl) ?_))
  rintro _ _ ⟨bc, rfl, rfl⟩
  refine s_val rfl (v_assign rfl) (s_val rfl (v_assign rfl) (s_val rfl (v_assign rfl) (s_val rfl (v_assign rfl) (s_val rfl (v_assign rfl) (x_nil (n_then (x_seq (x_region (s_val rfl (v_loadAll Tryz.isAgg29 Tryz.sizeOf29 rfl rfl) ?_)))))))))
  refine s_val rfl (v_move rfl) (s_do rfl (d_call Tryz.call19 rfl (hoNew_spec W0 _ c h hr)) ?_)
  rintro _ B_ ⟨hb, ps, pb, db, qb, gb, dx, rfl, hB_⟩
  obtain rfl := hB_.symm
  refine s_val rfl (v_move rfl) (s_val rfl (v_extract rfl rfl) (s_val rfl (v_extract rfl rfl) (s_val rfl (v_assign rfl) (s_val rfl (v_assign rfl) (x_nil (n_then (x_seq (x_region (s_val rfl (v_loadAll Tryz.isAgg29 Tryz.sizeOf29 rfl rfl) ?_)))))))))
  refine s_val rfl (v_move rfl) (s_do rfl (d_call Tryz.call32 rfl (rhNew_spec W0 _ c h hr)) ?_)
  rintro _ B_ ⟨wb, qs, rpb, x, y, z, rfl, hB_⟩
  obtain rfl := hB_.symm
  refine s_val rfl (v_move rfl) (s_val rfl (v_extract rfl rfl) (s_val rfl (v_extract rfl rfl) (s_val rfl (v_assign rfl) (s_val rfl (v_assign rfl) (x_nil (n_then (x_seq (x_seq (x_region (s_val rfl (v_move rfl) (s_val rfl (v_move rfl) (s_val rfl (v_neq rfl rfl) (s_val rfl (v_move rfl) ?_)))))))))))))
  refine s_or rfl rfl rfl ?_ ?_
  · intro g3_4
    exact absurd g3_4 (by decide)
  · intro g3_4
    refine s_val rfl (v_move rfl) (s_yes rfl rfl (s_val rfl (v_eql_ptr_nil Tryz.underlying30 rfl rfl) (s_yes rfl rfl (s_val rfl (v_move rfl) (s_yes rfl rfl (s_val rfl (v_eql_ptr_nil Tryz.underlying45 rfl rfl) (s_yes rfl rfl (s_val rfl (v_neq_bool Tryz.underlying4 rfl rfl) ?_))))))))
    refine s_val rfl (v_pick_f rfl rfl) (x_nil (n_then ?_))
    refine x_if rfl ?_ ?_
    · intro c3
      exact absurd rfl c3
    · intro c3
      refine x_skip (n_then (x_seq (x_seq (x_region (s_val rfl (v_move rfl) (s_val rfl (v_eql_ptr_nil Tryz.underlying45 rfl rfl) (x_nil (n_then ?_))))))))
      refine x_if rfl ?_ ?_
      · intro c5
        cases c5
      · intro c5
        refine x_skip (n_then (x_seq (x_region (s_val rfl (v_assign rfl) (x_nil (n_then (x_seq (x_region (s_val rfl (v_assign rfl) (x_nil (n_then (x_seq (x_seq (x_region (s_val rfl (v_assign rfl) (x_nil (n_then (x_block ?_))))))))))))))))))
        refine x_loop (fun X : Nat × List Nat × List Nat × (Option Addr × Nat) × (Option Addr × Nat) × Po => X.1 ≤ c.gl.length ∧ X.2.1.length = X.1 ∧ X.2.2.1.length = X.1 ∧ PoOk X.2.2.2.2.2 ∧ X.2.2.2.2.2.length = nFr c ∧ ∀ j, X.1 ≤ j → j < c.gl.length → (glA c j).2.1 ≤ ((fre X.2.2.2.2.2 j).length : Int)) (fun X => [(2, .slice none 0 0), (3, pV bc), (11, pV hb), (13, pV wb), (15, .slice X.2.2.2.1.1 X.2.1.length X.2.2.2.1.2), (16, .slice X.2.2.2.2.1.1 X.2.2.1.length X.2.2.2.2.1.2), (17, .int .i64 X.1)]) (fun X => pt bc (cfO c) :: mdH c hb ps pb db qb gb X.2.2.2.1.1 X.2.2.2.1.2 X.2.1 (poH pb (ps, X.2.2.2.2.2) :: pt wb (cob (rhV c qs rpb x y z) 110) :: rpoH rpb (qs, X.2.2.2.2.2) :: rstoH qs (List.replicate (nFr c) zeros) :: osl 101 1 (.slice X.2.2.2.2.1.1 X.2.2.1.length X.2.2.2.2.1.2) (X.2.2.1.map pV) :: R)) (fun X => c.gl.length - X.1) (0, [], [], (none, 0), (none, 0), poI c (nFr c)) ?_ ?_ ?_ ?_
        · refine ⟨Nat.zero_le _, rfl, rfl, poI_ok hR _, poI_len _ _, fun j _ hj => ?_⟩
          have := fre_poI hR hj
          have := hR.gs j hj
          show (glA c j).2.1 ≤ ((fre (poI c (nFr c)) j).length : Int)
          omega
        · repeat (first | exact sub_nil | refine sub_cons rfl ?_)
        · exact ent_made0
        · intro ⟨i, gbs, wbs, ⟨a, cap⟩, ⟨a2, cap2⟩, po⟩ ⟨hi, hgl, hwl, hpo, hpl, hfr⟩
          dsimp only at hi hgl hwl hpo hpl hfr ⊢
          refine x_seq (x_seq (x_region (s_val rfl (v_move rfl) ?_)))
          refine s_val rfl (v_fieldAddr rfl Tryz.underlying29 rfl Tryz.sizeOf23 rfl (by first | exact Nat.zero_add _ | rfl)) ?_
          refine s_val rfl (v_load Tryz.isAgg23 rfl (cell_own rfl)) ?_
          refine s_val rfl (v_len_slice Tryz.underlying23 rfl) (s_val rfl (v_lss rfl rfl) (x_nil (n_then ?_)))
          refine x_if rfl ?_ ?_
          · intro c10
            refine x_skip (n_then (x_seq (x_block (x_seq (x_region (s_val rfl (v_assign rfl) (x_nil (n_then (x_seq (x_seq (x_region (s_val rfl (v_move rfl) (s_val rfl (v_move rfl) (s_val rfl (v_len_slice Tryz.underlying88 rfl) (s_val rfl (v_lss rfl rfl) (x_nil (n_then ?_)))))))))))))))))
            refine x_if rfl ?_ ?_
            · intro c13
              omega
            · intro c13
              refine x_skip (n_then (x_seq ?_))
              have hi1 : i < c.gl.length := by omega
              have hlok : ImOk (laid c i [] (List.replicate (nFr c) zeros) po) := layI_ok (by omega) ⟨Frs.new _, hpo, pg0_ok, by rw [hlr]; exact hpl⟩
              have hlf := laid_nil (c := c) (i := i) (fr := List.replicate (nFr c) zeros) (po := po)
              obtain ⟨po2, hpo2⟩ : ∃ po2, (laid c i [] (List.replicate (nFr c) zeros) po).po = po2 := ⟨_, rfl⟩
              have hlo : ∀ j, j ≠ i → fre po2 j = fre po j := fun j hj => by rw [← hpo2]; exact laid_other hj
              have hok2 : PoOk po2 := by rw [← hpo2]; exact hlok.po
              have hpl2 : po2.length = nFr c := by rw [← hpo2, hlok.len, hlf]; exact hlr
              refine x_draw [(bc, 0, _)] 13 mixed rfl (sc_own sc_end) (fun hS => ?_)
              refine d_take 0 rfl rfl (by kernel_rfl) (by kernel_rfl) (by kernel_rfl) rfl hS (v_loadAgg Tryz.isAgg29 Tryz.sizeOf29 rfl (cells_sc (k := 0) rfl) rfl) ?_
              refine d_take 1 rfl rfl (by kernel_rfl) (by kernel_rfl) (by kernel_rfl) rfl hS (v_move rfl) ?_
              refine d_take 2 rfl rfl (by kernel_rfl) (by kernel_rfl) (by kernel_rfl) rfl hS (v_move rfl) ?_
              refine d_take 4 rfl rfl (by kernel_rfl) (by kernel_rfl) (by kernel_rfl) rfl hS (v_move rfl) ?_
              refine d_take 6 rfl rfl (by kernel_rfl) (by kernel_rfl) (by kernel_rfl) rfl hS (v_move rfl) ?_
              refine d_one 3 (by kernel_rfl) rfl rfl (d_call1 Tryz.call21 rfl (hoStore_spec W0 _ hb c ps pb db qb gb)) rfl ?_; clear hS
              rintro _ B_ ⟨rfl, hB_⟩
              obtain rfl := hB_.symm
              refine ⟨(sc_own sc_end), fun hS => ?_⟩
              refine d_one 5 (by kernel_rfl) rfl rfl (d_call1 Tryz.call22 rfl (hoPool_spec W0 _ hb c ps pb db qb gb)) rfl ?_; clear hS
              rintro _ B_ ⟨rfl, hB_⟩
              obtain rfl := hB_.symm
              refine ⟨(sc_own sc_end), fun hS => ?_⟩
              refine d_one 7 (by kernel_rfl) rfl rfl (d_call2 Tryz.call33 rfl (gsNew_spec W0 _ c h hr i hi1 ps pb (List.replicate (nFr c) zeros) po (Frs.new _) hpo (by rw [hlr]; exact hpl) (by rw [hlr]; omega) (hfr i (Nat.le_refl _) hi1) none 0 [] (fun A => sla_nil) (fun y hy => by cases hy) (by decide))) rfl ?_; clear hS
              rintro _ B_ ⟨g, bd, bt, bs, q0, q1, q2, wg, pv, pm, bx, tr, rfl, hB_⟩
              obtain rfl := hB_.symm
              rw [hlf, hpo2]
              refine ⟨(sc_own sc_end), fun hS => ?_⟩
              refine d_take 8 rfl rfl (by kernel_rfl) (by kernel_rfl) (by kernel_rfl) rfl hS (v_move rfl) ?_
              refine d_take 9 rfl rfl (by kernel_rfl) (by kernel_rfl) (by kernel_rfl) rfl hS (v_extract rfl rfl) ?_
              refine d_take 10 rfl rfl (by kernel_rfl) (by kernel_rfl) (by kernel_rfl) rfl hS (v_extract rfl rfl) ?_
              refine d_take 11 rfl rfl (by kernel_rfl) (by kernel_rfl) (by kernel_rfl) rfl hS (v_assign rfl) ?_
              refine d_take 12 rfl rfl (by kernel_rfl) (by kernel_rfl) (by kernel_rfl) rfl hS (v_assign rfl) ?_
              refine d_done (by kernel_rfl) ?_; clear hS
              refine n_then (x_seq (run_tk (r := pt) (b := bd.v) ?_))
              refine run_tk (r := trH) (b := tr) ?_
              refine run_tk (r := pt) (b := bd.r) ?_
              refine run_tk (r := pt) (b := g) ?_
              refine run_ent (ent_gu (x := gs0) gc_new rfl (fun _ => rfl)) ?_
              refine run_ent (B := guH g gs0 :: poH pb (ps, po2) :: stoH ps (List.replicate (nFr c) zeros) :: pt hb (cob (hoV c ps pb db qb gb) 68) :: pt bc (cfO c) :: pt gb (gtO c.cats c.gate c.quota) :: osl 50 1 (.slice a gbs.length cap) (gbs.map pV) :: kH 2 (grp (gbs.map fun g => guH g gs0)) :: pt wb (cob (rhV c qs rpb x y z) 110) :: rpoH rpb (qs, po) :: rstoH qs (List.replicate (nFr c) zeros) :: osl 101 1 (.slice a2 wbs.length cap2) (wbs.map pV) :: R) (Ent.cons inferInstance) ?_
              refine x_draw [(bc, 0, _), (wb, 0, _)] 17 mixed rfl (sc_own (sc_own sc_end)) (fun hS => ?_)
              refine d_take 0 rfl rfl (by kernel_rfl) (by kernel_rfl) (by kernel_rfl) rfl hS (v_loadAgg Tryz.isAgg29 Tryz.sizeOf29 rfl (by first | exact cells_sc (k := 0) rfl | exact cells_sc (k := 1) rfl) rfl) ?_
              refine d_take 1 rfl rfl (by kernel_rfl) (by kernel_rfl) (by kernel_rfl) rfl hS (v_move rfl) ?_
              refine d_take 2 rfl rfl (by kernel_rfl) (by kernel_rfl) (by kernel_rfl) rfl hS (v_move rfl) ?_
              refine d_take 3 rfl rfl (by kernel_rfl) (by kernel_rfl) (by kernel_rfl) rfl hS (v_nilCheck rfl) ?_
              refine d_take 4 rfl rfl (by kernel_rfl) (by kernel_rfl) (by kernel_rfl) rfl hS (v_fieldAddr rfl Tryz.underlying110 rfl Tryz.sizeOf104 rfl (by first | exact Nat.zero_add _ | rfl)) ?_
              refine d_take 5 rfl rfl (by kernel_rfl) (by kernel_rfl) (by kernel_rfl) rfl hS (v_load Tryz.isAgg104 rfl (by first | exact cell_sc0 (k := 0) rfl rfl | exact cell_sc0 (k := 1) rfl rfl)) ?_
              refine d_take 6 rfl rfl (by kernel_rfl) (by kernel_rfl) (by kernel_rfl) rfl hS (v_move rfl) ?_
              refine d_take 7 rfl rfl (by kernel_rfl) (by kernel_rfl) (by kernel_rfl) rfl hS (v_nilCheck rfl) ?_
              refine d_take 8 rfl rfl (by kernel_rfl) (by kernel_rfl) (by kernel_rfl) rfl hS (v_fieldAddr rfl Tryz.underlying110 rfl Tryz.sizeOf105 rfl (by first | exact Nat.zero_add _ | rfl)) ?_
              refine d_take 9 rfl rfl (by kernel_rfl) (by kernel_rfl) (by kernel_rfl) rfl hS (v_load Tryz.isAgg105 rfl (by first | exact cell_sc0 (k := 0) rfl rfl | exact cell_sc0 (k := 1) rfl rfl)) ?_
              refine d_take 10 rfl rfl (by kernel_rfl) (by kernel_rfl) (by kernel_rfl) rfl hS (v_move rfl) ?_
              refine d_one 11 (by kernel_rfl) rfl rfl (d_call2 Tryz.call34 rfl (rgNew36_spec W0 _ c h hr i hi1 qs rpb (List.replicate (nFr c) zeros) po (Frs.new _) hpo (by rw [hlr]; exact hpl) (by rw [hlr]; omega) (hfr i (Nat.le_refl _) hi1) none 0 [] (fun A => sla_nil) (fun y hy => by cases hy) (by decide) (Nat.le_refl _))) rfl ?_; clear hS
              rintro _ B_ ⟨w, rfl, hB_⟩
              obtain rfl := hB_.symm
              rw [hlf, hpo2]
              refine ⟨(sc_own (sc_own sc_end)), fun hS => ?_⟩
              refine d_take 12 rfl rfl (by kernel_rfl) (by kernel_rfl) (by kernel_rfl) rfl hS (v_move rfl) ?_
              refine d_take 13 rfl rfl (by kernel_rfl) (by kernel_rfl) (by kernel_rfl) rfl hS (v_extract rfl rfl) ?_
              refine d_take 14 rfl rfl (by kernel_rfl) (by kernel_rfl) (by kernel_rfl) rfl hS (v_extract rfl rfl) ?_
              refine d_take 15 rfl rfl (by kernel_rfl) (by kernel_rfl) (by kernel_rfl) rfl hS (v_assign rfl) ?_
              refine d_take 16 rfl rfl (by kernel_rfl) (by kernel_rfl) (by kernel_rfl) rfl hS (v_assign rfl) ?_
              refine d_done (by kernel_rfl) ?_; clear hS
              refine n_then (x_seq (x_seq (x_region (s_val rfl (v_move rfl) (s_val rfl (v_move rfl) (s_val rfl (v_neq rfl rfl) (s_val rfl (v_move rfl) ?_)))))))
              refine s_or rfl rfl rfl ?_ ?_
              · intro g17_4
                exact absurd g17_4 (by decide)
              · intro g17_4
                refine s_val rfl (v_move rfl) (s_yes rfl rfl (s_val rfl (v_eql_ptr_nil Tryz.underlying50 rfl rfl) (s_val rfl (v_pick_f rfl rfl) (s_val rfl (v_move rfl) ?_))))
                refine s_or rfl rfl rfl ?_ ?_
                · intro g17_8
                  first | exact absurd g17_8 (by decide) | (cases g17_8)
                · intro g17_8
                  refine s_val rfl (v_move rfl) (s_yes rfl rfl (s_val rfl (v_eql_ptr_nil Tryz.underlying101 rfl rfl) (s_val rfl (v_pick_f rfl rfl) (x_nil (n_then ?_)))))
                  refine x_if rfl ?_ ?_
                  · intro c17
                    first | exact absurd c17 (by decide) | (cases c17)
                  · intro c17
                    refine x_skip (n_then (x_seq (x_region (s_val rfl (v_move rfl) (s_val rfl (v_move rfl) ?_)))))
                    refine s_do rfl (d_sliceLit Tryz.underlying31 Tryz.sizeOf50 Tryz.zeroValue50 rfl rfl rfl rfl rfl (by decide) (by decide)) ?_
                    rintro _ _ ⟨b2, rfl, rfl⟩
                    refine s_do rfl (d_append (sz := 1) (by_ := 8) (info := Tryz.t50) Tryz.underlying31 (by kernel_rfl) rfl rfl rfl rfl (by decide) rfl rfl cells_all rfl rfl (by simp only [maxLen]; omega) (by omega)) ?_
                    rintro _ _ ⟨a3, c3, rfl, rfl⟩
                    refine s_val rfl (v_assign rfl) (x_nil (n_then (x_region (s_val rfl (v_move rfl) (s_val rfl (v_move rfl) ?_)))))
                    refine s_do rfl (d_sliceLit Tryz.underlying46 Tryz.sizeOf101 Tryz.zeroValue101 rfl rfl rfl rfl rfl (by decide) (by decide)) ?_
                    rintro _ _ ⟨b3, rfl, rfl⟩
                    refine s_do rfl (d_append (sz := 1) (by_ := 8) (info := Tryz.t101) Tryz.underlying46 (by kernel_rfl) rfl rfl rfl rfl (by decide) rfl rfl cells_all rfl rfl (by simp only [maxLen]; omega) (by omega)) ?_
                    rintro _ _ ⟨a4, c4, rfl, rfl⟩
                    refine s_val rfl (v_assign rfl) (x_nil (n_block (n_then (x_region (s_val rfl (v_move rfl) ?_)))))
                    refine s_val rfl (v_add rfl rfl (by first | exact w64 (by omega) | rfl)) ?_
                    refine s_val rfl (v_assign rfl) (x_nil (n_then ?_))
                    refine inv_intro (i + 1, gbs ++ [g], wbs ++ [w], (a3, c3), (a4, c4), po2) ?_ ?_ ?_ ?_
                    · refine ⟨by omega, by show (gbs ++ [g]).length = i + 1; simp [hgl], by show (wbs ++ [w]).length = i + 1; simp [hwl], hok2, hpl2, fun j h1 h2 => ?_⟩
                      show (glA c j).2.1 ≤ ((fre po2 j).length : Int)
                      rw [hlo j (by omega)]
                      exact hfr j (by omega) h2
                    · show c.gl.length - (i + 1) < c.gl.length - i; omega
                    · dsimp only
                      rw [show (gbs ++ [g]).length = gbs.length + 1 by simp, show (wbs ++ [w]).length = wbs.length + 1 by simp]
                      repeat (first | exact sub_nil | refine sub_cons rfl ?_)
                    · dsimp only
                      refine Ent.trans (B := guH g gs0 :: kH 2 (grp (gbs.map fun g => guH g gs0)) :: pt bc (cfO c) :: pt hb (cob (hoV c ps pb db qb gb) 68) :: pt gb (gtO c.cats c.gate c.quota) :: stoH ps (List.replicate (nFr c) zeros) :: osl 50 1 (.slice a3 (gbs.length + 1) c3) (gbs.map pV ++ [pV g]) :: poH pb (ps, po2) :: pt wb (cob (rhV c qs rpb x y z) 110) :: rpoH rpb (qs, po2) :: rstoH qs (List.replicate (nFr c) zeros) :: osl 101 1 (.slice a4 (wbs.length + 1) c4) (wbs.map pV ++ [pV w]) :: R) inferInstance ?_
                      refine Ent.trans guests_snoc ?_
                      unfold mdH
                      rw [show (gbs ++ [g]).length = gbs.length + 1 by simp, show (gbs ++ [g]).map pV = gbs.map pV ++ [pV g] by simp, show (wbs ++ [w]).length = wbs.length + 1 by simp, show (wbs ++ [w]).map pV = wbs.map pV ++ [pV w] by simp]
                      exact inferInstance
          · intro c10
            refine x_exit (e_then (e_then (e_block (n_then (x_seq (x_region (s_val rfl (v_move rfl) (s_val rfl (v_move rfl) (s_val rfl (v_move rfl) (s_val rfl (v_move rfl) (s_val rfl (v_assign rfl) (s_val rfl (v_assign rfl) (s_val rfl (v_assign rfl) (s_val rfl (v_assign rfl) (s_val rfl (v_assign rfl) (x_nil (n_then (x_ret (x_done (.inl rfl) (.cons (r_tmp rfl) (.cons (r_tmp rfl) (.cons (r_tmp rfl) (.cons (r_tmp rfl) (.cons (r_tmp rfl) .nil))))) ?_)))))))))))))))))))
            obtain rfl : i = c.gl.length := by omega
            exact ⟨_, ⟨hb, ps, pb, db, qb, gb, wb, a, cap, a2, wbs.length, cap2, gbs, hgl, rfl, rfl⟩, inferInstance⟩
end Go.Proofs.YtnidndllknffgaaGreat
namespace Go.Proofs.YtnidndllknffgaaGreat
open Go.RowKit
set_option linter.unusedSimpArgs false
set_option linter.unusedVariables false
set_option maxRecDepth 20000
abbrev guO (cs : List Value) : Obj := cob cs 142
section
variable {rb vb pv tr : Nat} {cs : List Value}
theorem guNone_spec (W0 : World) (R : List HP) (gb : Nat) (h : GC rb vb pv tr cs) : Spec Tryz.prog W0 43 [pV gb] (pt gb (guO cs) :: R) (fun v B => v = .bool false ∧ B = pt gb (guO cs) :: R) := by
  refine spec_body Tryz.func43 Tryz.ntmps43 rfl rfl ?_
  refine x_seq (x_region (s_val rfl (v_assign rfl) (x_nil (n_then (x_seq (x_region (s_val rfl (v_move rfl) (s_val rfl (v_eql_ptr_nil Tryz.underlying50 rfl rfl) (s_val rfl (v_move rfl) ?_)))))))))
  refine s_or rfl rfl rfl ?_ ?_
  · intro g1_3
    cases g1_3
  · intro g1_3
    refine s_val rfl (v_move rfl) (s_yes rfl rfl (s_val rfl (v_nilCheck rfl) (s_yes rfl rfl ?_)))
    refine s_val rfl (v_fieldAddr rfl Tryz.underlying142 rfl Tryz.sizeOf139 rfl (by first | exact Nat.zero_add _ | rfl)) ?_
    refine s_yes rfl rfl (s_val rfl (v_load Tryz.isAgg139 rfl (cell_own h.cw)) ?_)
    refine s_yes rfl rfl (s_val rfl (v_eql_ptr_nil Tryz.underlying139 rfl rfl) (s_val rfl (v_pick_f rfl rfl) (s_val rfl (v_assign rfl) (x_nil (n_then (x_ret (x_done (.inl rfl) (.cons (r_tmp rfl) .nil) ?_)))))))
    exact ⟨_, ⟨rfl, rfl⟩, inferInstance⟩
theorem guRegs_spec (W0 : World) (R : List HP) (gb : Nat) (rl : List Nat) (pc : Nat) (h : GC rb vb pv tr cs) (hl : rl.length = 16) : Spec Tryz.prog W0 17 [pV gb] (pt gb (guO cs) :: pt rb (rfO rl pc) :: R) (fun v B => v = .agg (rl.map wV).toArray ∧ B = pt gb (guO cs) :: pt rb (rfO rl pc) :: R) := by
  refine spec_body Tryz.func17 Tryz.ntmps17 rfl rfl ?_
  refine x_seq (x_region (s_do rfl (d_allocA Tryz.zeroValue58) ?_))
  rintro _ _ ⟨b1, rfl, rfl⟩
  refine x_nil (n_then (x_seq (x_seq (x_region (s_val rfl (v_move rfl) (s_do rfl (d_call1 Tryz.call43 rfl (guNone_spec W0 _ gb h)) ?_))))))
  rintro _ B_ ⟨rfl, hB_⟩
  obtain rfl := hB_.symm
  refine x_nil (n_then ?_)
  refine x_if rfl ?_ ?_
  · intro c1
    exact absurd c1 (by decide)
  · intro c1
    refine x_skip (n_then (x_seq (x_region (s_val rfl (v_move rfl) (s_val rfl (v_nilCheck rfl) ?_)))))
    refine s_val rfl (v_fieldAddr rfl Tryz.underlying142 rfl Tryz.sizeOf138 rfl (by first | exact Nat.zero_add _ | rfl)) ?_
    refine s_val rfl (v_fieldAddr rfl Tryz.underlying138 rfl Tryz.sizeOf130 rfl (by first | exact Nat.zero_add _ | rfl)) ?_
    refine s_val rfl (v_load Tryz.isAgg130 rfl (cell_own h.cr)) ?_
    refine s_do rfl (d_call1 Tryz.call44 rfl (regsAll_spec W0 _ rb rl pc hl)) ?_
    rintro _ B_ ⟨rfl, hB_⟩
    obtain rfl := hB_.symm
    refine s_do0 (d_storeAll Tryz.sizeOf58 rfl rfl (by rw [List.length_map, hl]) (regs_one rl) rfl) ?_
    rintro _ _ rfl
    refine x_nil (n_then (x_ret ?_))
    refine x_done (.inl rfl) (.cons (r_all Tryz.isAgg58 Tryz.sizeOf58 rfl (by rw [List.length_map, hl])) .nil) ?_
    exact ⟨_, ⟨rfl, rfl⟩, inferInstance⟩
theorem guSet_spec (W0 : World) (R : List HP) (gb : Nat) (rl : List Nat) (pc i x : Nat) (h : GC rb vb pv tr cs) (hl : rl.length = 16) (hi : i < 16) (h0 : i ≠ 0) : Spec Tryz.prog W0 35 [pV gb, .int .i64 i, wV x] (pt gb (guO cs) :: pt rb (rfO rl pc) :: R) (fun v B => v = .int .i64 0 ∧ B = pt gb (guO cs) :: pt rb (rfO (rl.set i x) pc) :: R) := by
  refine spec_body Tryz.func35 Tryz.ntmps35 rfl rfl ?_
  refine x_seq (x_region (s_val rfl (v_assign rfl) (x_nil (n_then (x_seq (x_seq (x_region (s_val rfl (v_move rfl) (s_do rfl (d_call1 Tryz.call43 rfl (guNone_spec W0 _ gb h)) ?_)))))))))
  rintro _ B_ ⟨rfl, hB_⟩
  obtain rfl := hB_.symm
  refine x_nil (n_then ?_)
  refine x_if rfl ?_ ?_
  · intro c1
    exact absurd c1 (by decide)
  · intro c1
    refine x_skip (n_then (x_seq (x_region (s_val rfl (v_move rfl) (s_val rfl (v_nilCheck rfl) ?_)))))
    refine s_val rfl (v_fieldAddr rfl Tryz.underlying142 rfl Tryz.sizeOf138 rfl (by first | exact Nat.zero_add _ | rfl)) ?_
    refine s_val rfl (v_fieldAddr rfl Tryz.underlying138 rfl Tryz.sizeOf130 rfl (by first | exact Nat.zero_add _ | rfl)) ?_
    refine s_val rfl (v_load Tryz.isAgg130 rfl (cell_own h.cr)) ?_
    refine s_val rfl (v_move rfl) (s_val rfl (v_move rfl) (s_do rfl (d_call1 Tryz.call98 rfl (regsSet_spec W0 _ rb rl pc i x hl hi h0)) ?_))
    rintro _ B_ ⟨rfl, hB_⟩
    obtain rfl := hB_.symm
    refine s_val rfl (v_assign rfl) (x_nil (n_then (x_ret (x_done (.inl rfl) (.cons (r_tmp rfl) .nil) ?_))))
    exact ⟨_, ⟨rfl, rfl⟩, inferInstance⟩
theorem guTrace_spec (W0 : World) (R : List HP) (gb : Nat) (h : GC rb vb pv tr cs) : Spec Tryz.prog W0 30 [pV gb] (pt gb (guO cs) :: R) (fun v B => v = pV tr ∧ B = pt gb (guO cs) :: R) := by
  refine spec_body Tryz.func30 Tryz.ntmps30 rfl rfl ?_
  refine x_seq (x_region (s_val rfl (v_assign rfl) (x_nil (n_then (x_seq (x_seq (x_region (s_val rfl (v_move rfl) (s_do rfl (d_call1 Tryz.call43 rfl (guNone_spec W0 _ gb h)) ?_)))))))))
  rintro _ B_ ⟨rfl, hB_⟩
  obtain rfl := hB_.symm
  refine x_nil (n_then ?_)
  refine x_if rfl ?_ ?_
  · intro c1
    exact absurd c1 (by decide)
  · intro c1
    refine x_skip (n_then (x_seq (x_region (s_val rfl (v_move rfl) (s_val rfl (v_nilCheck rfl) ?_)))))
    refine s_val rfl (v_fieldAddr rfl Tryz.underlying142 rfl Tryz.sizeOf94 rfl (by first | exact Nat.zero_add _ | rfl)) ?_
    refine s_val rfl (v_load Tryz.isAgg94 rfl (cell_own h.ct)) ?_
    refine s_val rfl (v_assign rfl) (x_nil (n_then (x_ret (x_done (.inl rfl) (.cons (r_tmp rfl) .nil) ?_))))
    exact ⟨_, ⟨rfl, rfl⟩, inferInstance⟩
theorem regsGet_spec (W0 : World) (R : List HP) (b : Nat) (rl : List Nat) (pc i : Nat) (hl : rl.length = 16) (hi : i < 16) : Spec Tryz.prog W0 105 [pV b, .int .i64 i] (pt b (rfO rl pc) :: R) (fun v B => v = .tuple #[wV (rl.getD i 0), .int .i64 0] ∧ B = pt b (rfO rl pc) :: R) := by
  have hir : isR i = true := by simp only [isR, decide_eq_true_eq]; omega
  have hg : (rl.map wV ++ [Value.bool true, wV pc])[i * 1]? = some (wV (rl.getD i 0)) := by
    rw [Nat.mul_one, List.getElem?_append_left (by rw [List.length_map, hl]; exact hi)]
    simp [List.getD, show i < rl.length by omega]
  refine spec_body Tryz.func105 Tryz.ntmps105 rfl rfl ?_
  refine x_seq (x_region (s_val rfl (v_assign rfl) (s_val rfl (v_assign rfl) (x_nil (n_then (x_seq (x_seq (x_region (s_val rfl (v_move rfl) (s_val rfl (v_eql_ptr_nil Tryz.underlying130 rfl rfl) (x_nil (n_then ?_))))))))))))
  refine x_if rfl ?_ ?_
  · intro c1
    cases c1
  · intro c1
    refine x_skip (n_then (x_seq (x_seq (x_region (s_val rfl (v_move rfl) (s_val rfl (v_nilCheck rfl) ?_))))))
    refine s_val rfl (v_fieldAddr rfl Tryz.underlying254 rfl Tryz.sizeOf252 rfl (by first | exact Nat.zero_add _ | rfl)) ?_
    refine s_val rfl (v_move rfl) (s_do rfl (d_call1 Tryz.call217 rfl (regsMay_spec W0 _ b rl pc hl i)) ?_)
    rintro _ B_ ⟨rfl, hB_⟩
    obtain rfl := hB_.symm
    refine s_val rfl (v_assign rfl) (x_nil (n_then (x_seq (x_region (s_val rfl (v_move rfl) (s_val rfl (v_neq rfl rfl) (x_nil (n_then ?_))))))))
    refine x_if rfl ?_ ?_
    · intro c4
      exact absurd c4 (by rw [hir]; decide)
    · intro c4
      refine x_skip (n_then (x_seq (x_region (s_val rfl (v_move rfl) (s_val rfl (v_move rfl) (s_val rfl (v_nilCheck rfl) ?_))))))
      refine s_val rfl (v_fieldAddr rfl Tryz.underlying254 rfl Tryz.sizeOf252 rfl (by first | exact Nat.zero_add _ | rfl)) ?_
      refine s_val rfl (v_fieldAddr rfl Tryz.underlying252 rfl Tryz.sizeOf58 rfl (by first | exact Nat.zero_add _ | rfl)) ?_
      refine s_val rfl (v_idxArr Tryz.underlying58 Tryz.sizeOf42 rfl rfl rfl hi (by first | exact Nat.zero_add _ | rfl)) ?_
      refine s_val rfl (v_load Tryz.isAgg42 rfl (cell_own hg)) ?_
      refine s_val rfl (v_assign rfl) (s_val rfl (v_assign rfl) (x_nil (n_then (x_ret (x_done (.inl rfl) (.cons (r_tmp rfl) (.cons (r_tmp rfl) .nil)) ?_)))))
      exact ⟨_, ⟨rfl, rfl⟩, inferInstance⟩
theorem guLast_spec (W0 : World) (R : List HP) (gb : Nat) (h : GC rb vb pv tr cs) : Spec Tryz.prog W0 242 [pV gb] (pt gb (guO cs) :: R) (fun v B => v = .int .i64 0 ∧ B = pt gb (guO cs) :: R) := by
  refine spec_body Tryz.func242 Tryz.ntmps242 rfl rfl ?_
  refine x_seq (x_region (s_val rfl (v_assign rfl) (x_nil (n_then (x_seq (x_region (s_val rfl (v_move rfl) (s_val rfl (v_nilCheck rfl) ?_))))))))
  refine s_val rfl (v_fieldAddr rfl Tryz.underlying142 rfl Tryz.sizeOf3 rfl (by first | exact Nat.zero_add _ | rfl)) ?_
  refine s_val rfl (v_load Tryz.isAgg3 rfl (cell_own h.cc)) ?_
  refine s_val rfl (v_sub rfl rfl (r := -1) rfl) ?_
  refine s_val rfl (v_max rfl rfl (r := 0) rfl) ?_
  refine s_val rfl (v_assign rfl) (x_nil (n_then (x_ret (x_done (.inl rfl) (.cons (r_tmp rfl) .nil) ?_))))
  exact ⟨_, ⟨rfl, rfl⟩, inferInstance⟩
theorem ev_set (k ck : Int) (a b d : Nat) (rl : List Nat) (h : rl.length = 16) (zs : List Value) (hz : zs.length = 16) : setR ([.int .i64 k, .int .i64 ck, wV a, wV b, wV d] ++ zs) 5 (rl.map wV) = [.int .i64 k, .int .i64 ck, wV a, wV b, wV d] ++ rl.map wV :=
  setR_all (rl.map wV) zs [.int .i64 k, .int .i64 ck, wV a, wV b, wV d] (by rw [List.length_map, h, hz])
theorem ev_build {S : World → Prop} {N : FSz} {e : Env} {o0 o1 o2 o3 o4 o5 : Operand} {k ck : Int} {a b d : Nat} {rl : List Nat} (hl : rl.length = 16) (h0 : ev e o0 = some (.int .i64 k)) (h1 : ev e o1 = some (.int .i64 ck)) (h2 : ev e o2 = some (wV a)) (h3 : ev e o3 = some (wV b)) (h4 : ev e o4 = some (wV d)) (h5 : ev e o5 = some (.agg (rl.map wV).toArray)) :
    Val Tryz.prog S N e (.build 407 #[(0, o0), (1, o1), (2, o2), (3, o3), (4, o4), (5, o5)]) (.agg ([Value.int .i64 k, .int .i64 ck, wV a, wV b, wV d] ++ rl.map wV).toArray) :=
  v_build (l' := [Value.int .i64 k, .int .i64 ck, wV a, wV b, wV d] ++ rl.map wV) Tryz.underlying407 Tryz.zeroValue407 (sized_cons Tryz.sizeOf3 (sized_cons Tryz.sizeOf3 (sized_cons Tryz.sizeOf42 (sized_cons Tryz.sizeOf42 (sized_cons Tryz.sizeOf42 (sized_cons Tryz.sizeOf58 sized_nil))))))
    (fil_scal (l' := [.int .i64 k, .int .i64 0, .int .u32 0, .int .u32 0, .int .u32 0] ++ List.replicate 16 (.int .u32 0)) rfl Tryz.sizeOf3 h0 rfl (Nat.le_of_ble_eq_true rfl) rfl
    (fil_scal (l' := [.int .i64 k, .int .i64 ck, .int .u32 0, .int .u32 0, .int .u32 0] ++ List.replicate 16 (.int .u32 0)) rfl Tryz.sizeOf3 h1 rfl (Nat.le_of_ble_eq_true rfl) rfl
    (fil_scal (l' := [.int .i64 k, .int .i64 ck, wV a, .int .u32 0, .int .u32 0] ++ List.replicate 16 (.int .u32 0)) rfl Tryz.sizeOf42 h2 rfl (Nat.le_of_ble_eq_true rfl) rfl
    (fil_scal (l' := [.int .i64 k, .int .i64 ck, wV a, wV b, .int .u32 0] ++ List.replicate 16 (.int .u32 0)) rfl Tryz.sizeOf42 h3 rfl (Nat.le_of_ble_eq_true rfl) rfl
    (fil_scal (l' := [.int .i64 k, .int .i64 ck, wV a, wV b, wV d] ++ List.replicate 16 (.int .u32 0)) rfl Tryz.sizeOf42 h4 rfl (Nat.le_of_ble_eq_true rfl) rfl
    (fil_agg rfl Tryz.sizeOf58 h5 (by rw [List.length_map, hl]) (by simp) (ev_set k ck a b d rl hl _ (by simp)) fil_nil))))))
theorem trAdd2_spec (W0 : World) (R : List HP) (b : Nat) (es : List Evt) (k ck : Int) (x y z : Nat) (rl : List Nat) (hl : rl.length = 16) (hn : es.length < 4096) : Spec Tryz.prog W0 241 [pV b, .agg ([Value.int .i64 k, .int .i64 ck, wV x, wV y, wV z] ++ rl.map wV).toArray] (trH b es :: R) (fun v B => v = .int .i64 0 ∧ B = trH b (es ++ [⟨k, ck, x, y, z, rl⟩]) :: R) := by
  have := trAdd_spec W0 R b es ⟨k, ck, x, y, z, rl⟩ hn
  rwa [evV_eq (e := ⟨k, ck, x, y, z, rl⟩) hl] at this
theorem guNote_spec (W0 : World) (R : List HP) (gb : Nat) (rl : List Nat) (pc : Nat) (es : List Evt) (k : Int) (x y z : Nat) (h : GC rb vb pv tr cs) (hl : rl.length = 16) (hn : es.length < 4096) : Spec Tryz.prog W0 108 [pV gb, .int .i64 k, wV x, wV y, wV z] (pt gb (guO cs) :: pt rb (rfO rl pc) :: trH tr es :: R)
    (fun v B => v = .tuple #[] ∧ B = pt gb (guO cs) :: pt rb (rfO rl pc) :: trH tr (es ++ [⟨k, 0, x, y, z, rl⟩]) :: R) := by
  refine spec_body Tryz.func108 Tryz.ntmps108 rfl rfl ?_
  refine x_draw [(gb, 0, _)] 18 mixed rfl (sc_own sc_end) (fun hS => ?_)
  refine d_take 0 rfl rfl (by kernel_rfl) (by kernel_rfl) (by kernel_rfl) rfl hS (v_move rfl) ?_
  refine d_take 1 rfl rfl (by kernel_rfl) (by kernel_rfl) (by kernel_rfl) rfl hS (v_nilCheck rfl) ?_
  refine d_take 2 rfl rfl (by kernel_rfl) (by kernel_rfl) (by kernel_rfl) rfl hS (v_fieldAddr rfl Tryz.underlying142 rfl Tryz.sizeOf94 rfl (by first | exact Nat.zero_add _ | rfl)) ?_
  refine d_take 3 rfl rfl (by kernel_rfl) (by kernel_rfl) (by kernel_rfl) rfl hS (v_load Tryz.isAgg94 rfl (cell_sc0 (k := 0) rfl h.ct)) ?_
  refine d_take 4 rfl rfl (by kernel_rfl) (by kernel_rfl) (by kernel_rfl) rfl hS (v_move rfl) ?_
  refine d_take 5 rfl rfl (by kernel_rfl) (by kernel_rfl) (by kernel_rfl) rfl hS (v_move rfl) ?_
  refine d_take 7 rfl rfl (by kernel_rfl) (by kernel_rfl) (by kernel_rfl) rfl hS (v_move rfl) ?_
  refine d_take 8 rfl rfl (by kernel_rfl) (by kernel_rfl) (by kernel_rfl) rfl hS (v_move rfl) ?_
  refine d_take 9 rfl rfl (by kernel_rfl) (by kernel_rfl) (by kernel_rfl) rfl hS (v_move rfl) ?_
  refine d_take 10 rfl rfl (by kernel_rfl) (by kernel_rfl) (by kernel_rfl) rfl hS (v_move rfl) ?_
  refine d_take 11 rfl rfl (by kernel_rfl) (by kernel_rfl) (by kernel_rfl) rfl hS (v_nilCheck rfl) ?_
  refine d_take 12 rfl rfl (by kernel_rfl) (by kernel_rfl) (by kernel_rfl) rfl hS (v_fieldAddr rfl Tryz.underlying142 rfl Tryz.sizeOf138 rfl (by first | exact Nat.zero_add _ | rfl)) ?_
  refine d_take 13 rfl rfl (by kernel_rfl) (by kernel_rfl) (by kernel_rfl) rfl hS (v_fieldAddr rfl Tryz.underlying138 rfl Tryz.sizeOf130 rfl (by first | exact Nat.zero_add _ | rfl)) ?_
  refine d_take 14 rfl rfl (by kernel_rfl) (by kernel_rfl) (by kernel_rfl) rfl hS (v_load Tryz.isAgg130 rfl (cell_sc0 (k := 0) rfl h.cr)) ?_
  refine d_one 6 (by kernel_rfl) rfl rfl (d_call1 Tryz.call242 rfl (guLast_spec W0 _ gb h)) rfl ?_; clear hS
  rintro _ B_ ⟨rfl, hB_⟩
  obtain rfl := hB_.symm
  refine ⟨(sc_own sc_end), fun hS => ?_⟩
  refine d_one 15 (by kernel_rfl) rfl rfl (d_call1 Tryz.call44 rfl (regsAll_spec W0 _ rb rl pc hl)) rfl ?_; clear hS
  rintro _ B_ ⟨rfl, hB_⟩
  obtain rfl := hB_.symm
  refine ⟨(sc_own sc_end), fun hS => ?_⟩
  refine d_take 16 rfl rfl (by kernel_rfl) (by kernel_rfl) (by kernel_rfl) rfl hS (ev_build hl rfl rfl rfl rfl rfl rfl) ?_
  refine d_one 17 (by kernel_rfl) rfl rfl (d_call1 Tryz.call241 rfl (trAdd2_spec W0 _ tr es k 0 x y z rl hl hn)) rfl ?_; clear hS
  rintro _ B_ ⟨rfl, hB_⟩
  obtain rfl := hB_.symm
  refine ⟨(sc_own sc_end), fun hS => ?_⟩
  refine d_done (by kernel_rfl) ?_; clear hS
  refine x_done (.inr rfl) .nil ?_
  exact ⟨_, ⟨rfl, rfl⟩, inferInstance⟩
def ansR (rl : List Nat) (e w : Nat) : List Nat := (rl.set 1 e).set 2 w
theorem guAnswer_spec (W0 : World) (R : List HP) (gb : Nat) (rl : List Nat) (pc : Nat) (es : List Evt) (e w : Nat) (h : GC rb vb pv tr cs) (hl : rl.length = 16) (hn : es.length < 4096) (he : e < 100) (hp : pc < 1000) : Spec Tryz.prog W0 39 [pV gb, .int .i64 e, wV w] (pt gb (guO cs) :: pt rb (rfO rl pc) :: trH tr es :: R)
    (fun v B => v = .int .i64 0 ∧ B = pt gb (guO cs) :: pt rb (rfO (ansR rl e w) (pc + 4)) :: trH tr (es ++ [⟨2, 0, rl.getD 1 0, e, pc, ansR rl e w⟩]) :: R) := by
  have hl2 : (ansR rl e w).length = 16 := by simp [ansR, hl]
  refine spec_body Tryz.func39 Tryz.ntmps39 rfl rfl ?_
  refine x_seq (x_region (s_val rfl (v_assign rfl) (x_nil (n_then (x_seq (x_seq (x_region (s_val rfl (v_move rfl) (s_do rfl (d_call1 Tryz.call43 rfl (guNone_spec W0 _ gb h)) ?_)))))))))
  rintro _ B_ ⟨rfl, hB_⟩
  obtain rfl := hB_.symm
  refine x_nil (n_then ?_)
  refine x_if rfl ?_ ?_
  · intro c1
    exact absurd c1 (by decide)
  · intro c1
    refine x_skip (n_then (x_seq (x_region (s_val rfl (v_move rfl) (s_val rfl (v_nilCheck rfl) ?_)))))
    refine s_val rfl (v_fieldAddr rfl Tryz.underlying142 rfl Tryz.sizeOf138 rfl (by first | exact Nat.zero_add _ | rfl)) ?_
    refine s_val rfl (v_fieldAddr rfl Tryz.underlying138 rfl Tryz.sizeOf130 rfl (by first | exact Nat.zero_add _ | rfl)) ?_
    refine s_val rfl (v_load Tryz.isAgg130 rfl (cell_own h.cr)) ?_
    refine s_do rfl (d_call1 Tryz.call105 rfl (regsGet_spec W0 _ rb rl pc 1 hl (by decide))) ?_
    rintro _ B_ ⟨rfl, hB_⟩
    obtain rfl := hB_.symm
    refine s_val rfl (v_move rfl) (s_val rfl (v_extract rfl rfl) (s_val rfl (v_extract rfl rfl) (s_val rfl (v_assign rfl) (s_val rfl (v_assign rfl) (x_nil (n_then (x_seq (x_region (s_val rfl (v_move rfl) (s_val rfl (v_nilCheck rfl) ?_))))))))))
    refine s_val rfl (v_fieldAddr rfl Tryz.underlying142 rfl Tryz.sizeOf138 rfl (by first | exact Nat.zero_add _ | rfl)) ?_
    refine s_val rfl (v_fieldAddr rfl Tryz.underlying138 rfl Tryz.sizeOf130 rfl (by first | exact Nat.zero_add _ | rfl)) ?_
    refine s_val rfl (v_load Tryz.isAgg130 rfl (cell_own h.cr)) ?_
    refine s_do rfl (d_call1 Tryz.call106 rfl (regsPc_spec W0 _ rb rl pc hl)) ?_
    rintro _ B_ ⟨rfl, hB_⟩
    obtain rfl := hB_.symm
    refine s_val rfl (v_assign rfl) (x_nil (n_then (x_seq (x_region (s_val rfl (v_move rfl) (s_val rfl (v_nilCheck rfl) ?_))))))
    refine s_val rfl (v_fieldAddr rfl Tryz.underlying142 rfl Tryz.sizeOf138 rfl (by first | exact Nat.zero_add _ | rfl)) ?_
    refine s_val rfl (v_fieldAddr rfl Tryz.underlying138 rfl Tryz.sizeOf130 rfl (by first | exact Nat.zero_add _ | rfl)) ?_
    refine s_val rfl (v_load Tryz.isAgg130 rfl (cell_own h.cr)) ?_
    refine s_val rfl (v_move rfl) ?_
    refine s_val rfl (v_conv Tryz.underlying51 Tryz.underlying42 rfl (w32u (by omega))) ?_
    refine s_do rfl (d_call1 Tryz.call98 rfl (regsSet_spec W0 _ rb rl pc 1 e hl (by decide) (by decide))) ?_
    rintro _ B_ ⟨rfl, hB_⟩
    obtain rfl := hB_.symm
    refine x_nil (n_then (x_seq (x_region (s_val rfl (v_move rfl) (s_val rfl (v_nilCheck rfl) ?_)))))
    refine s_val rfl (v_fieldAddr rfl Tryz.underlying142 rfl Tryz.sizeOf138 rfl (by first | exact Nat.zero_add _ | rfl)) ?_
    refine s_val rfl (v_fieldAddr rfl Tryz.underlying138 rfl Tryz.sizeOf130 rfl (by first | exact Nat.zero_add _ | rfl)) ?_
    refine s_val rfl (v_load Tryz.isAgg130 rfl (cell_own h.cr)) ?_
    refine s_val rfl (v_move rfl) ?_
    refine s_do rfl (d_call1 Tryz.call98 rfl (regsSet_spec W0 _ rb (rl.set 1 e) pc 2 w (by simp [hl]) (by decide) (by decide))) ?_
    rintro _ B_ ⟨rfl, hB_⟩
    obtain rfl := hB_.symm
    refine x_nil (n_then (x_seq (x_region (s_val rfl (v_move rfl) (s_val rfl (v_nilCheck rfl) ?_)))))
    refine s_val rfl (v_fieldAddr rfl Tryz.underlying142 rfl Tryz.sizeOf138 rfl (by first | exact Nat.zero_add _ | rfl)) ?_
    refine s_val rfl (v_fieldAddr rfl Tryz.underlying138 rfl Tryz.sizeOf130 rfl (by first | exact Nat.zero_add _ | rfl)) ?_
    refine s_val rfl (v_load Tryz.isAgg130 rfl (cell_own h.cr)) ?_
    refine s_val rfl (v_move rfl) ?_
    refine s_val rfl (v_add rfl rfl (by rw [w32u (by omega)]; omega : IntKind.wrap .u32 ((pc : Int) + 4) = ((pc + 4 : Nat) : Int))) ?_
    refine s_do rfl (d_call1 Tryz.call107 rfl (regsJump_spec W0 _ rb (ansR rl e w) pc (pc + 4) hl2)) ?_
    rintro _ B_ ⟨rfl, hB_⟩
    obtain rfl := hB_.symm
    refine x_nil (n_then (x_seq (x_region (s_val rfl (v_move rfl) (s_val rfl (v_move rfl) (s_val rfl (v_move rfl) ?_))))))
    refine s_val rfl (v_conv Tryz.underlying51 Tryz.underlying42 rfl (w32u (by omega))) ?_
    refine s_val rfl (v_move rfl) (s_do rfl (d_call3 Tryz.call108 rfl (guNote_spec W0 _ gb (ansR rl e w) (pc + 4) es 2 (rl.getD 1 0) e pc h hl2 hn)) ?_)
    rintro _ B_ ⟨rfl, hB_⟩
    obtain rfl := hB_.symm
    refine x_nil (n_then (x_seq (x_region (s_val rfl (v_assign rfl) (x_nil (n_then (x_ret (x_done (.inl rfl) (.cons (r_tmp rfl) .nil) ?_))))))))
    exact ⟨_, ⟨rfl, rfl⟩, inferInstance⟩
theorem list16 {l : List Nat} (h : l.length = 16) : ∃ a0 a1 a2 a3 a4 a5 a6 a7 a8 a9 a10 a11 a12 a13 a14 a15, l = [a0, a1, a2, a3, a4, a5, a6, a7, a8, a9, a10, a11, a12, a13, a14, a15] := by
  match l, h with
  | [a0, a1, a2, a3, a4, a5, a6, a7, a8, a9, a10, a11, a12, a13, a14, a15], _ => exact ⟨a0, a1, a2, a3, a4, a5, a6, a7, a8, a9, a10, a11, a12, a13, a14, a15, rfl⟩
theorem guAsked_spec (W0 : World) (R : List HP) (gb : Nat) (rl : List Nat) (pc : Nat) (h : GC rb vb pv tr cs) (hl : rl.length = 16) : Spec Tryz.prog W0 37 [pV gb] (pt gb (guO cs) :: pt rb (rfO rl pc) :: R)
    (fun v B => v = .tuple #[wV (rl.getD 1 0), .agg #[wV (rl.getD 2 0), wV (rl.getD 3 0), wV (rl.getD 4 0), wV (rl.getD 5 0)]] ∧ B = pt gb (guO cs) :: pt rb (rfO rl pc) :: R) := by
  obtain ⟨a0, a1, a2, a3, a4, a5, a6, a7, a8, a9, a10, a11, a12, a13, a14, a15, rfl⟩ := list16 hl
  refine spec_body Tryz.func37 Tryz.ntmps37 rfl rfl ?_
  refine x_seq (x_region (s_val rfl (v_assign rfl) (s_do rfl (d_allocA Tryz.zeroValue43) ?_)))
  rintro _ _ ⟨b1, rfl, rfl⟩
  refine x_nil (n_then (x_seq (x_region (s_val rfl (v_move rfl) (s_do rfl (d_call2 Tryz.call17 rfl (guRegs_spec W0 _ gb [a0, a1, a2, a3, a4, a5, a6, a7, a8, a9, a10, a11, a12, a13, a14, a15] pc h hl)) ?_)))))
  rintro _ B_ ⟨rfl, hB_⟩
  obtain rfl := hB_.symm
  refine s_do rfl (d_allocA Tryz.zeroValue58) ?_
  rintro _ _ ⟨br, rfl, rfl⟩
  refine s_do0 (d_storeAll Tryz.sizeOf58 rfl rfl rfl rfl rfl) ?_
  rintro _ _ rfl
  refine x_nil (n_then (x_seq ?_))
  refine x_draw [(br, 0, _)] 7 mixed rfl (sc_own sc_end) (fun hS => ?_)
  refine d_take 0 rfl rfl (by kernel_rfl) (by kernel_rfl) (by kernel_rfl) rfl hS (v_idxArr Tryz.underlying58 Tryz.sizeOf42 rfl rfl (i := 1) rfl (by decide) (by first | exact Nat.zero_add _ | rfl)) ?_
  refine d_take 1 rfl rfl (by kernel_rfl) (by kernel_rfl) (by kernel_rfl) rfl hS (v_load Tryz.isAgg42 rfl (cell_sc0 (k := 0) rfl rfl)) ?_
  refine d_take 2 rfl rfl (by kernel_rfl) (by kernel_rfl) (by kernel_rfl) rfl hS (v_sliceArrLH (i := 2) (h := 6) (o' := 2) Tryz.underlying58 Tryz.sizeOf42 rfl rfl rfl rfl rfl (by decide) (by decide) (by decide) rfl) ?_
  refine d_take 3 rfl rfl (by kernel_rfl) (by kernel_rfl) (by kernel_rfl) rfl hS (v_toArr Tryz.underlying43 rfl (by decide)) ?_
  refine d_take 4 rfl rfl (by kernel_rfl) (by kernel_rfl) (by kernel_rfl) rfl hS (v_loadAgg Tryz.isAgg43 Tryz.sizeOf43 rfl (cells_midA (n := 4) (j := 2) (cells_sc (k := 0) rfl) rfl) rfl) ?_
  refine d_take 5 rfl rfl (by kernel_rfl) (by kernel_rfl) (by kernel_rfl) rfl hS (v_assign rfl) ?_
  refine d_one 6 (by kernel_rfl) rfl rfl (d_storeAll Tryz.sizeOf43 rfl rfl rfl rfl rfl) rfl ?_; clear hS
  rintro _ _ rfl
  refine ⟨(sc_own sc_end), fun hS => ?_⟩
  refine d_done (by kernel_rfl) ?_; clear hS
  refine n_then (x_ret (x_done (.inl rfl) (.cons (r_tmp rfl) (.cons (r_all Tryz.isAgg43 Tryz.sizeOf43 rfl rfl) .nil)) ?_))
  exact ⟨_, ⟨rfl, rfl⟩, inferInstance⟩
@[reducible] def caV (gb i n : Nat) (x : List Value) (hb : Nat) (lv : Value) : List Value := [pV gb, .int .i64 i, wV n] ++ x ++ [.int .i64 0, pV hb, lv]
theorem caHow_who (W0 : World) (R : List HP) (cb gb i hb : Nat) (a b c d : Nat) (lv : Value) : Spec Tryz.prog W0 38 [pV cb] (pt cb (cob (caV gb i 0 [wV a, wV b, wV c, wV d] hb lv) 118) :: R)
    (fun v B => v = .func (.func 230) #[pV cb] #[] ∧ B = pt cb (cob (caV gb i 0 [wV a, wV b, wV c, wV d] hb lv) 118) :: R) := by
  have own : ∀ R, Spec Tryz.prog W0 104 [pV cb] (pt cb (cob (caV gb i 0 [wV a, wV b, wV c, wV d] hb lv) 118) :: R)
    (fun v B => v = .func (.func 230) #[pV cb] #[] ∧ B = pt cb (cob (caV gb i 0 [wV a, wV b, wV c, wV d] hb lv) 118) :: R) := fun R => by
    refine spec_body Tryz.func104 Tryz.ntmps104 rfl rfl ?_
    refine x_seq (x_region (s_val rfl (v_assign rfl) (x_nil (n_then (x_seq (x_seq (x_region (s_val rfl (v_move rfl) (s_val rfl (v_nilCheck rfl) ?_)))))))))
    refine s_val rfl (v_fieldAddr rfl Tryz.underlying118 rfl Tryz.sizeOf116 rfl (by first | exact Nat.zero_add _ | rfl)) ?_
    refine s_val rfl (v_fieldAddr rfl Tryz.underlying116 rfl Tryz.sizeOf42 rfl (by first | exact Nat.zero_add _ | rfl)) ?_
    refine s_val rfl (v_load Tryz.isAgg42 rfl (cell_own rfl)) ?_
    refine x_nil (n_then (x_block (x_seq (x_region (s_val rfl (v_eql rfl rfl) (s_val rfl (v_assign rfl) (x_nil (n_then ?_))))))))
    refine x_if rfl ?_ ?_
    · intro c2
      refine x_seq (x_region (s_val rfl (v_move rfl) (s_val rfl (v_mkFunc rfl rfl) ?_)))
      refine s_val rfl (v_assign rfl) (x_nil (n_then (x_ret (r_block (r_then (x_done (.inl rfl) (.cons (r_tmp rfl) .nil) ?_))))))
      exact ⟨_, ⟨rfl, rfl⟩, inferInstance⟩
    · intro c2
      exact absurd rfl c2
  refine spec_body Tryz.func38 Tryz.ntmps38 rfl rfl ?_
  refine x_seq (x_region (s_val rfl (v_assign rfl) (x_nil (n_then (x_seq (x_seq (x_region (s_val rfl (v_move rfl) (s_val rfl (v_nilCheck rfl) ?_)))))))))
  refine s_val rfl (v_fieldAddr rfl Tryz.underlying118 rfl Tryz.sizeOf116 rfl (by first | exact Nat.zero_add _ | rfl)) ?_
  refine s_val rfl (v_fieldAddr rfl Tryz.underlying116 rfl Tryz.sizeOf42 rfl (by first | exact Nat.zero_add _ | rfl)) ?_
  refine s_val rfl (v_load Tryz.isAgg42 rfl (cell_own rfl)) ?_
  refine x_nil (n_then (x_block (x_seq (x_region (s_val rfl (v_eql rfl rfl) (s_val rfl (v_assign rfl) (x_nil (n_then ?_))))))))
  refine x_if rfl ?_ ?_
  · intro c2
    exact absurd c2 (by decide)
  · intro c2
    refine x_seq (x_region (s_val rfl (v_eql rfl rfl) (s_val rfl (v_assign rfl) (x_nil (n_then ?_)))))
    refine x_if rfl ?_ ?_
    · intro c4
      exact absurd c4 (by decide)
    · intro c4
      refine x_seq (x_region (s_val rfl (v_eql rfl rfl) (s_val rfl (v_assign rfl) (x_nil (n_then ?_)))))
      refine x_if rfl ?_ ?_
      · intro c6
        exact absurd c6 (by decide)
      · intro c6
        refine x_seq (x_region (s_val rfl (v_eql rfl rfl) (s_val rfl (v_assign rfl) (x_nil (n_then ?_)))))
        refine x_if rfl ?_ ?_
        · intro c8
          exact absurd c8 (by decide)
        · intro c8
          refine x_seq (x_region (s_val rfl (v_eql rfl rfl) (s_val rfl (v_assign rfl) (x_nil (n_then ?_)))))
          refine x_if rfl ?_ ?_
          · intro c10
            exact absurd c10 (by decide)
          · intro c10
            refine x_skip (n_block (n_then (x_seq (x_region (s_val rfl (v_move rfl) (s_do rfl (d_call1 Tryz.call104 rfl (own _)) ?_))))))
            rintro _ B_ ⟨rfl, hB_⟩
            obtain rfl := hB_.symm
            refine s_val rfl (v_assign rfl) (x_nil (n_then (x_ret (x_done (.inl rfl) (.cons (r_tmp rfl) .nil) ?_))))
            exact ⟨_, ⟨rfl, rfl⟩, inferInstance⟩
theorem caWho_spec (W0 : World) (R : List HP) (cb gb i hb : Nat) (a b c d : Nat) (lv : Value) (hi : i < 100) : Spec Tryz.prog W0 230 ([pV cb] ++ [] ++ []) (pt cb (cob (caV gb i 0 [wV a, wV b, wV c, wV d] hb lv) 118) :: R)
    (fun v B => v = .tuple #[.int .i64 0, wV i] ∧ B = pt cb (cob (caV gb i 0 [wV a, wV b, wV c, wV d] hb lv) 118) :: R) := by
  simp only [List.append_nil]
  refine spec_body Tryz.func230 Tryz.ntmps230 rfl rfl ?_
  refine x_seq (x_region (s_val rfl (v_assign rfl) (s_val rfl (v_assign rfl) (x_nil (n_then (x_seq ?_))))))
  refine x_draw [(cb, 0, _)] 8 mixed rfl (sc_own sc_end) (fun hS => ?_)
  refine d_take 0 rfl rfl (by kernel_rfl) (by kernel_rfl) (by kernel_rfl) rfl hS (v_move rfl) ?_
  refine d_take 1 rfl rfl (by kernel_rfl) (by kernel_rfl) (by kernel_rfl) rfl hS (v_nilCheck rfl) ?_
  refine d_take 2 rfl rfl (by kernel_rfl) (by kernel_rfl) (by kernel_rfl) rfl hS (v_fieldAddr rfl Tryz.underlying118 rfl Tryz.sizeOf116 rfl (by first | exact Nat.zero_add _ | rfl)) ?_
  refine d_take 3 rfl rfl (by kernel_rfl) (by kernel_rfl) (by kernel_rfl) rfl hS (v_fieldAddr rfl Tryz.underlying116 rfl Tryz.sizeOf3 rfl (by first | exact Nat.zero_add _ | rfl)) ?_
  refine d_take 4 rfl rfl (by kernel_rfl) (by kernel_rfl) (by kernel_rfl) rfl hS (v_load Tryz.isAgg3 rfl (cell_sc0 (k := 0) rfl rfl)) ?_
  refine d_take 5 rfl rfl (by kernel_rfl) (by kernel_rfl) (by kernel_rfl) rfl hS (v_conv Tryz.underlying3 Tryz.underlying42 rfl (w32u (by omega))) ?_
  refine d_take 6 rfl rfl (by kernel_rfl) (by kernel_rfl) (by kernel_rfl) rfl hS (v_assign rfl) ?_
  refine d_take 7 rfl rfl (by kernel_rfl) (by kernel_rfl) (by kernel_rfl) rfl hS (v_assign rfl) ?_
  refine d_done (by kernel_rfl) ?_; clear hS
  refine n_then (x_ret (x_done (.inl rfl) (.cons (r_tmp rfl) (.cons (r_tmp rfl) .nil)) ?_))
  exact ⟨_, ⟨rfl, rfl⟩, inferInstance⟩
theorem caEnd_spec (W0 : World) (R : List HP) (cb gb i hb n : Nat) (a b c d : Nat) (lv : Value) (h2 : n ≠ 2) (h3 : n ≠ 3) : Spec Tryz.prog W0 40 [pV cb] (pt cb (cob (caV gb i n [wV a, wV b, wV c, wV d] hb lv) 118) :: R)
    (fun v B => v = .tuple #[] ∧ B = pt cb (cob (caV gb i n [wV a, wV b, wV c, wV d] hb lv) 118) :: R) := by
  refine spec_body Tryz.func40 Tryz.ntmps40 rfl rfl ?_
  refine x_seq (x_region (s_val rfl (v_move rfl) (s_val rfl (v_nilCheck rfl) ?_)))
  refine s_val rfl (v_fieldAddr rfl Tryz.underlying118 rfl Tryz.sizeOf116 rfl (by first | exact Nat.zero_add _ | rfl)) ?_
  refine s_val rfl (v_fieldAddr rfl Tryz.underlying116 rfl Tryz.sizeOf42 rfl (by first | exact Nat.zero_add _ | rfl)) ?_
  refine s_val rfl (v_load Tryz.isAgg42 rfl (cell_own rfl)) ?_
  refine x_nil (n_then (x_block (x_seq (x_region (s_val rfl (v_eql rfl rfl) (s_val rfl (v_assign rfl) (x_nil (n_then ?_))))))))
  refine x_if rfl ?_ ?_
  · intro c1
    omega
  · intro c1
    refine x_seq (x_region (s_val rfl (v_eql rfl rfl) (s_val rfl (v_assign rfl) (x_nil (n_then ?_)))))
    refine x_if rfl ?_ ?_
    · intro c3
      omega
    · intro c3
      refine x_skip (n_block (x_done (.inr rfl) .nil ?_))
      exact ⟨_, ⟨rfl, rfl⟩, inferInstance⟩
end
end Go.Proofs.YtnidndllknffgaaGreat
namespace Go.Proofs.YtnidndllknffgaaGreat
open Go.RowKit
set_option linter.unusedSimpArgs false
set_option linter.unusedVariables false
set_option maxRecDepth 20000
theorem pl_get {gbs : List Nat} {sp : List Value} {i g : Nat} (h : gbs[i]? = some g) : (gbs.map pV ++ sp)[i * 1]? = some (pV g) := by
  obtain ⟨hi, hg⟩ := List.getElem?_eq_some_iff.1 h
  rw [Nat.mul_one, List.getElem?_append_left (by rw [List.length_map]; exact hi)]
  simp [hi, hg]
section
variable {rb vb pv tr : Nat} {cs : List Value}
theorem doWho_spec (W0 : World) (R : List HP) (hb : Nat) (cf : Cfg) (ps pb db qb gb : Nat) (a : Option Addr) (cap : Nat) (gbs : List Nat) (i g : Nat) (hg : gbs[i]? = some g) (hi4 : gbs.length ≤ 4) (rl : List Nat) (pc : Nat) (es : List Evt)
    (h : GC rb vb pv tr cs) (hl : rl.length = 16) (hn : es.length < 4096) (hp : pc < 1000) (hw : rl.getD 1 0 = 0) :
    Spec Tryz.prog W0 14 [pV hb, .slice a gbs.length cap, .int .i64 i] (pt hb (cob (hoV cf ps pb db qb gb) 68) :: osl 50 1 (.slice a gbs.length cap) (gbs.map pV) :: pt g (guO cs) :: pt rb (rfO rl pc) :: trH tr es :: R)
      (fun v B => v = .tuple #[.int .i64 0, .int .i64 0] ∧ B = pt hb (cob (hoV cf ps pb db qb gb) 68) :: osl 50 1 (.slice a gbs.length cap) (gbs.map pV) :: pt g (guO cs) :: pt rb (rfO (ansR rl 0 i) (pc + 4)) :: trH tr (es ++ [⟨2, 0, 0, 0, pc, ansR rl 0 i⟩]) :: R) := by
  have hi := (List.getElem?_eq_some_iff.1 hg).1
  refine spec_body Tryz.func14 Tryz.ntmps14 rfl rfl ?_
  refine x_seq (x_region (s_val rfl (v_assign rfl) (s_val rfl (v_assign rfl) (x_nil (n_then (x_seq (x_seq ?_)))))))
  refine run_tk (r := osl 50 1) (b := .slice a gbs.length cap) (run_osl (fun h1 h2 => by have := congrArg List.length h2; rw [List.length_map, List.length_nil] at this; omega) fun lg nn c2 sp h1 h2 h3 h4 h5 => ?_)
  cases h1
  refine x_region (s_val rfl (v_move rfl) (s_do rfl (d_call1 Tryz.call36 rfl (hoNone_spec W0 _ hb cf ps pb db qb gb)) ?_))
  rintro _ B_ ⟨rfl, hB_⟩
  obtain rfl := hB_.symm
  refine s_val rfl (v_move rfl) ?_
  refine s_or rfl rfl rfl ?_ ?_
  · intro g1_3
    exact absurd g1_3 (by decide)
  · intro g1_3
    refine s_val rfl (v_move rfl) (s_yes rfl rfl (s_val rfl (v_lss rfl rfl) (s_val rfl (v_pick_f rfl rfl) (s_val rfl (v_move rfl) ?_))))
    refine s_or rfl rfl rfl ?_ ?_
    · intro g1_7
      omega
    · intro g1_7
      refine s_val rfl (v_move rfl) (s_yes rfl rfl (s_val rfl (v_move rfl) (s_yes rfl rfl (s_val rfl (v_len_slice Tryz.underlying31 rfl) (s_yes rfl rfl (s_val rfl (v_geq rfl rfl) (s_val rfl (v_pick_f rfl rfl) (s_val rfl (v_move rfl) ?_))))))))
      refine s_or rfl rfl rfl ?_ ?_
      · intro g1_13
        omega
      · intro g1_13
        refine s_val rfl (v_move rfl) (s_yes rfl rfl (s_val rfl (v_move rfl) (s_yes rfl rfl ?_)))
        refine s_val rfl (v_idx Tryz.underlying31 Tryz.sizeOf50 rfl rfl rfl hi (by first | exact Nat.zero_add _ | rfl)) ?_
        refine s_yes rfl rfl (s_val rfl (v_load Tryz.isAgg50 rfl (cell_own (pl_get hg))) ?_)
        refine s_yes rfl rfl (s_val rfl (v_eql_ptr_nil Tryz.underlying50 rfl rfl) (s_val rfl (v_pick_f rfl rfl) (x_nil (n_then ?_))))
        refine x_if rfl ?_ ?_
        · intro c1
          cases c1
        · intro c1
          refine x_skip (n_then (x_seq (x_region (s_val rfl (v_move rfl) (s_val rfl (v_move rfl) ?_)))))
          refine s_val rfl (v_idx Tryz.underlying31 Tryz.sizeOf50 rfl rfl rfl hi (by first | exact Nat.zero_add _ | rfl)) ?_
          refine s_val rfl (v_load Tryz.isAgg50 rfl (cell_own (pl_get hg))) ?_
          refine s_do rfl (d_call2 Tryz.call37 rfl (guAsked_spec W0 _ g rl pc h hl)) ?_
          rintro _ B_ ⟨rfl, hB_⟩
          obtain rfl := hB_.symm
          rw [hw]
          refine s_val rfl (v_move rfl) (s_val rfl (v_extract rfl rfl) (s_val rfl (v_extract rfl rfl) (s_do rfl (d_allocA Tryz.zeroValue43) ?_)))
          rintro _ _ ⟨b9, rfl, rfl⟩
          refine s_val rfl (v_assign rfl) (s_do0 (d_storeAll Tryz.sizeOf43 rfl rfl rfl rfl rfl) ?_)
          rintro _ _ rfl
          refine x_nil (n_then (x_seq ?_))
          refine x_draw [(lg, 0, _), (b9, 0, _)] 13 mixed rfl (sc_own (sc_own sc_end)) (fun hS => ?_)
          refine d_take 0 rfl rfl (by kernel_rfl) (by kernel_rfl) (by kernel_rfl) rfl hS (v_move rfl) ?_
          refine d_take 1 rfl rfl (by kernel_rfl) (by kernel_rfl) (by kernel_rfl) rfl hS (v_move rfl) ?_
          refine d_take 2 rfl rfl (by kernel_rfl) (by kernel_rfl) (by kernel_rfl) rfl hS (v_idx Tryz.underlying31 Tryz.sizeOf50 rfl rfl rfl hi (by first | exact Nat.zero_add _ | rfl)) ?_
          refine d_take 3 rfl rfl (by kernel_rfl) (by kernel_rfl) (by kernel_rfl) rfl hS (v_load Tryz.isAgg50 rfl (cell_sc0 (k := 0) rfl (pl_get hg))) ?_
          refine d_take 4 rfl rfl (by kernel_rfl) (by kernel_rfl) (by kernel_rfl) rfl hS (v_move rfl) ?_
          refine d_take 5 rfl rfl (by kernel_rfl) (by kernel_rfl) (by kernel_rfl) rfl hS (v_move rfl) ?_
          refine d_take 6 rfl rfl (by kernel_rfl) (by kernel_rfl) (by kernel_rfl) rfl hS (v_loadAgg Tryz.isAgg43 Tryz.sizeOf43 rfl (cells_sc (k := 1) rfl) rfl) ?_
          refine d_take 7 rfl rfl (by kernel_rfl) (by kernel_rfl) (by kernel_rfl) rfl hS (v_build Tryz.underlying116 Tryz.zeroValue116 (sized_cons Tryz.sizeOf50 (sized_cons Tryz.sizeOf3 (sized_cons Tryz.sizeOf42 (sized_cons Tryz.sizeOf43 (sized_cons Tryz.sizeOf3 sized_nil))))) (fil_scal rfl Tryz.sizeOf50 rfl rfl (Nat.le_of_ble_eq_true rfl) SetL.eq (fil_scal rfl Tryz.sizeOf3 rfl rfl (Nat.le_of_ble_eq_true rfl) SetL.eq (fil_scal rfl Tryz.sizeOf42 rfl rfl (Nat.le_of_ble_eq_true rfl) SetL.eq (fil_agg rfl Tryz.sizeOf43 rfl rfl (Nat.le_of_ble_eq_true rfl) SetRL.eq fil_nil))))) ?_
          refine d_take 8 rfl rfl (by kernel_rfl) (by kernel_rfl) (by kernel_rfl) rfl hS (v_move rfl) ?_
          refine d_take 9 rfl rfl (by kernel_rfl) (by kernel_rfl) (by kernel_rfl) rfl hS (v_move rfl) ?_
          refine d_take 10 rfl rfl (by kernel_rfl) (by kernel_rfl) (by kernel_rfl) rfl hS (v_build Tryz.underlying118 Tryz.zeroValue118 (sized_cons Tryz.sizeOf116 (sized_cons Tryz.sizeOf30 (sized_cons Tryz.sizeOf31 sized_nil))) (fil_agg rfl Tryz.sizeOf116 rfl rfl (Nat.le_of_ble_eq_true rfl) SetRL.eq (fil_scal rfl Tryz.sizeOf30 rfl rfl (Nat.le_of_ble_eq_true rfl) SetL.eq (fil_scal rfl Tryz.sizeOf31 rfl rfl (Nat.le_of_ble_eq_true rfl) SetL.eq fil_nil)))) ?_
          refine d_one 11 (by kernel_rfl) rfl rfl (d_boxA rfl) rfl ?_; clear hS
          rintro _ _ ⟨cb, rfl, rfl⟩
          refine ⟨(sc_own (sc_own sc_end)), fun hS => ?_⟩
          refine d_take 12 rfl rfl (by kernel_rfl) (by kernel_rfl) (by kernel_rfl) rfl hS (v_assign rfl) ?_
          refine d_done (by kernel_rfl) ?_; clear hS
          refine n_then (x_seq (run_pt (b := cb) (o' := cob (caV g i 0 [wV (rl.getD 2 0), wV (rl.getD 3 0), wV (rl.getD 4 0), wV (rl.getD 5 0)] hb (.slice (some ⟨lg, 0, none⟩) gbs.length cap)) 118) rfl ?_))
          refine x_region (s_val rfl (v_move rfl) (s_do rfl (d_call1 Tryz.call38 rfl (caHow_who W0 _ cb g i hb _ _ _ _ _)) ?_))
          rintro _ B_ ⟨rfl, hB_⟩
          obtain rfl := hB_.symm
          refine s_val rfl (v_assign rfl) (x_nil (n_then (x_seq (x_region (s_val rfl (v_move rfl) ?_)))))
          refine s_do rfl (d_callv1 (us := [pV cb]) (cs := []) rfl Tryz.call230 rfl (caWho_spec W0 _ cb g i hb _ _ _ _ _ (by omega))) ?_
          rintro _ B_ ⟨rfl, hB_⟩
          obtain rfl := hB_.symm
          refine s_val rfl (v_move rfl) (s_val rfl (v_extract rfl rfl) (s_val rfl (v_extract rfl rfl) (s_val rfl (v_assign rfl) (s_val rfl (v_assign rfl) (x_nil (n_then (x_seq (x_seq (x_region (s_val rfl (v_move rfl) (s_val rfl (v_neq rfl rfl) (s_val rfl (v_move rfl) ?_))))))))))))
          refine s_and rfl rfl rfl ?_ ?_
          · intro g7_3
            exact absurd g7_3 (by decide)
          · intro g7_3
            refine s_no rfl rfl rfl rfl (s_val rfl (v_pick_f rfl rfl) (x_nil (n_then (x_iff rfl (x_skip (n_then (x_seq (x_region (s_val rfl (v_move rfl) (s_val rfl (v_nilCheck rfl) ?_))))))))))
            refine s_val rfl (v_fieldAddr rfl Tryz.underlying118 rfl Tryz.sizeOf116 rfl (by first | exact Nat.zero_add _ | rfl)) ?_
            refine s_val rfl (v_fieldAddr rfl Tryz.underlying116 rfl Tryz.sizeOf50 rfl (by first | exact Nat.zero_add _ | rfl)) ?_
            refine s_val rfl (v_load Tryz.isAgg50 rfl (cell_own rfl)) ?_
            refine s_val rfl (v_move rfl) (s_val rfl (v_move rfl) ?_)
            refine s_do rfl (d_call3 Tryz.call39 rfl (guAnswer_spec W0 _ g rl pc es 0 i h hl hn (by decide) hp)) ?_
            rintro _ B_ ⟨rfl, hB_⟩
            obtain rfl := hB_.symm
            rw [hw]
            refine x_nil (n_then (x_seq (x_region (s_val rfl (v_move rfl) ?_))))
            refine s_do rfl (d_call1 Tryz.call40 rfl (caEnd_spec W0 _ cb g i hb 0 _ _ _ _ _ (by decide) (by decide))) ?_
            rintro _ B_ ⟨rfl, hB_⟩
            obtain rfl := hB_.symm
            refine x_nil (n_then (x_seq ?_))
            refine x_draw [(cb, 0, _)] 8 mixed rfl (sc_own sc_end) (fun hS => ?_)
            refine d_take 0 rfl rfl (by kernel_rfl) (by kernel_rfl) (by kernel_rfl) rfl hS (v_move rfl) ?_
            refine d_take 1 rfl rfl (by kernel_rfl) (by kernel_rfl) (by kernel_rfl) rfl hS (v_move rfl) ?_
            refine d_take 2 rfl rfl (by kernel_rfl) (by kernel_rfl) (by kernel_rfl) rfl hS (v_nilCheck rfl) ?_
            refine d_take 3 rfl rfl (by kernel_rfl) (by kernel_rfl) (by kernel_rfl) rfl hS (v_fieldAddr rfl Tryz.underlying118 rfl Tryz.sizeOf116 rfl (by first | exact Nat.zero_add _ | rfl)) ?_
            refine d_take 4 rfl rfl (by kernel_rfl) (by kernel_rfl) (by kernel_rfl) rfl hS (v_fieldAddr rfl Tryz.underlying116 rfl Tryz.sizeOf3 rfl (by first | exact Nat.zero_add _ | rfl)) ?_
            refine d_take 5 rfl rfl (by kernel_rfl) (by kernel_rfl) (by kernel_rfl) rfl hS (v_load Tryz.isAgg3 rfl (cell_sc0 (k := 0) rfl rfl)) ?_
            refine d_take 6 rfl rfl (by kernel_rfl) (by kernel_rfl) (by kernel_rfl) rfl hS (v_assign rfl) ?_
            refine d_take 7 rfl rfl (by kernel_rfl) (by kernel_rfl) (by kernel_rfl) rfl hS (v_assign rfl) ?_
            refine d_done (by kernel_rfl) ?_; clear hS
            refine n_then (x_ret (x_done (.inl rfl) (.cons (r_tmp rfl) (.cons (r_tmp rfl) .nil)) ?_))
            refine ⟨_, ⟨rfl, rfl⟩, ?_⟩
            have e := ent_osl (E := 50) (sz := 1) (g := lg) (n := gbs.length) (cap := cap) (xs := gbs.map pV) (sp := sp) (A := pt lg (cob (gbs.map pV ++ sp) 50) :: pt g (guO cs) :: pt rb (rfO (ansR rl 0 i) (pc + 4)) :: trH tr (es ++ [⟨2, 0, 0, 0, pc, ansR rl 0 i⟩]) :: R) (B := pt g (guO cs) :: pt rb (rfO (ansR rl 0 i) (pc + 4)) :: trH tr (es ++ [⟨2, 0, 0, 0, pc, ansR rl 0 i⟩]) :: R) h2 h3 (by rw [List.length_map]; omega) h5
            exact (inferInstance : Ent _ (pt hb (cob (hoV cf ps pb db qb gb) 68) :: pt lg (cob (gbs.map pV ++ sp) 50) :: pt g (guO cs) :: pt rb (rfO (ansR rl 0 i) (pc + 4)) :: trH tr (es ++ [⟨2, 0, 0, 0, pc, ansR rl 0 i⟩]) :: R)).trans (Ent.cons e)
def askR (rl : List Nat) (n : Nat) (x : List Nat) : Nat → List Nat
  | 0 => rl.set 1 n
  | k + 1 => (askR rl n x k).set (k + 2) (x.getD k 0)
theorem askR_len {rl : List Nat} {n : Nat} {x : List Nat} (h : rl.length = 16) : ∀ k, (askR rl n x k).length = 16
  | 0 => by rw [askR, List.length_set]; exact h
  | k + 1 => by rw [askR, List.length_set]; exact askR_len h k
theorem lwAsk_spec (W0 : World) (R : List HP) (g : Nat) (rl : List Nat) (pc n : Nat) (x : List Nat) (hx : x.length = 4) (h : GC rb vb pv tr cs) (hl : rl.length = 16) :
    Spec Tryz.prog W0 13 [pV g, wV n, .agg (x.map wV).toArray] (pt g (guO cs) :: pt rb (rfO rl pc) :: R) (fun v B => v = .tuple #[] ∧ B = pt g (guO cs) :: pt rb (rfO (askR rl n x 4) pc) :: R) := by
  refine spec_body Tryz.func13 Tryz.ntmps13 rfl rfl ?_
  refine x_seq (x_region (s_do rfl (d_boxA rfl) ?_))
  rintro _ _ ⟨b5, rfl, rfl⟩
  refine x_nil (n_then (x_seq (x_region (s_val rfl (v_move rfl) (s_val rfl (v_move rfl) ?_)))))
  refine s_do rfl (d_call2 Tryz.call35 rfl (guSet_spec W0 _ g rl pc 1 n h hl (by decide) (by decide))) ?_
  rintro _ B_ ⟨rfl, hB_⟩
  obtain rfl := hB_.symm
  refine x_nil (n_then (x_seq (x_region (s_val rfl (v_assign rfl) (x_nil (n_then (x_block ?_)))))))
  refine x_loop (fun k : Nat => k ≤ 4) (fun k => [(0, pV g), (5, pV b5), (6, .int .i64 k)]) (fun k => pt b5 (cob (x.map wV) 43) :: pt g (guO cs) :: pt rb (rfO (askR rl n x k) pc) :: R) (fun k => 4 - k) 0 ?_ ?_ ?_ ?_
  · exact Nat.zero_le _
  · repeat (first | exact sub_nil | refine sub_cons rfl ?_)
  · rw [show askR rl n x 0 = rl.set 1 n from rfl]
    exact inferInstance
  · intro k hk
    refine x_seq (x_seq (x_region (s_val rfl (v_move rfl) (s_val rfl (v_lss rfl rfl) (x_nil (n_then ?_))))))
    refine x_if rfl ?_ ?_
    · intro c3
      refine x_skip (n_then (x_seq (x_block ?_)))
      have hk1 : k < 4 := by omega
      have hg : (x.map wV)[k * 1]? = some (wV (x.getD k 0)) := by
        rw [Nat.mul_one]; simp [List.getD, show k < x.length by omega]
      refine x_region (s_val rfl (v_move rfl) (s_val rfl (v_move rfl) ?_))
      refine s_val rfl (v_add rfl rfl (by rw [w64 (by omega)]; omega : IntKind.wrap .i64 ((k : Int) + 2) = ((k + 2 : Nat) : Int))) ?_
      refine s_val rfl (v_move rfl) ?_
      refine s_val rfl (v_idxArr Tryz.underlying43 Tryz.sizeOf42 rfl rfl rfl hk1 (by first | exact Nat.zero_add _ | rfl)) ?_
      refine s_val rfl (v_load Tryz.isAgg42 rfl (cell_own hg)) ?_
      refine s_do rfl (d_call2 Tryz.call35 rfl (guSet_spec W0 _ g (askR rl n x k) pc (k + 2) (x.getD k 0) h (askR_len hl k) (by omega) (by omega))) ?_
      rintro _ B_ ⟨rfl, hB_⟩
      obtain rfl := hB_.symm
      refine x_nil (n_block (n_then (x_region (s_val rfl (v_move rfl) ?_))))
      refine s_val rfl (v_add rfl rfl (by first | exact w64 (by omega) | rfl)) ?_
      refine s_val rfl (v_assign rfl) (x_nil (n_then ?_))
      refine inv_intro (k + 1) ?_ ?_ ?_ ?_
      · omega
      · omega
      · repeat (first | exact sub_nil | refine sub_cons rfl ?_)
      · rw [show askR rl n x (k + 1) = (askR rl n x k).set (k + 2) (x.getD k 0) from rfl]
        exact inferInstance
    · intro c3
      refine x_exit (e_then (e_then (e_block (x_done (.inr rfl) .nil ?_))))
      obtain rfl : k = 4 := by omega
      exact ⟨_, ⟨rfl, rfl⟩, inferInstance⟩
end
@[reducible] def twC (b1 b2 b3 b4 b5 : Nat) : Cfg := ⟨1, some ⟨b1, 0, none⟩, 2, [(1, 4, 2), (0, 4, 0)], some ⟨b2, 0, none⟩, 1, [(0, 0, 4)], some ⟨b3, 0, none⟩, 2, [(1, 0), (0, 1)], some ⟨b4, 0, none⟩, 1, [(1, 0)], some ⟨b5, 0, none⟩, 1, [(0, 1)], 0, 8⟩
@[reducible] def twH (b1 b2 b3 b4 b5 : Nat) (R : List HP) : List HP := pt b1 (cob ([(1, 4, 2), (0, 4, 0)].flatMap gsV) 85) :: pt b2 (cob ([(0, 0, 4)].flatMap gsV) 144) :: pt b3 (cob ([(1, 0), (0, 1)].flatMap pairV) 146) :: pt b4 (cob ([(1, 0)].flatMap pairV) 61) :: pt b5 (cob ([(0, 1)].flatMap pairV) 87) :: R
theorem tw_rt (b1 b2 b3 b4 b5 : Nat) : rt (twC b1 b2 b3 b4 b5) = true := by kernel_rfl
theorem lwTwo_spec (W0 : World) (R : List HP) : Spec Tryz.prog W0 18 [] R (fun v B => ∃ b1 b2 b3 b4 b5, v = .agg (cfgV (twC b1 b2 b3 b4 b5)).toArray ∧ B = twH b1 b2 b3 b4 b5 R) := by
  refine spec_body Tryz.func18 Tryz.ntmps18 rfl rfl ?_
  refine x_seq (x_region (s_do rfl (d_allocA Tryz.zeroValue29) ?_))
  rintro _ _ ⟨b1, rfl, rfl⟩
  refine x_nil (n_then (x_seq (x_region (s_val rfl (v_build Tryz.underlying85 Tryz.zeroValue85 (sized_cons Tryz.sizeOf3 (sized_cons Tryz.sizeOf3 (sized_cons Tryz.sizeOf3 sized_nil))) (fil_scal rfl Tryz.sizeOf3 rfl rfl (Nat.le_of_ble_eq_true rfl) SetL.eq (fil_scal rfl Tryz.sizeOf3 rfl rfl (Nat.le_of_ble_eq_true rfl) SetL.eq (fil_scal rfl Tryz.sizeOf3 rfl rfl (Nat.le_of_ble_eq_true rfl) SetL.eq fil_nil)))) ?_))))
  refine s_val rfl (v_build Tryz.underlying85 Tryz.zeroValue85 (sized_cons Tryz.sizeOf3 (sized_cons Tryz.sizeOf3 (sized_cons Tryz.sizeOf3 sized_nil))) (fil_scal rfl Tryz.sizeOf3 rfl rfl (Nat.le_of_ble_eq_true rfl) SetL.eq fil_nil)) ?_
  refine s_do rfl (d_sliceAgg Tryz.underlying23 Tryz.sizeOf85 Tryz.zeroValue85 rfl (elsK_cons rfl rfl (elsK_cons rfl rfl elsK_nil)) rfl (by decide) (by decide) (by decide)) ?_
  rintro _ _ ⟨b1, rfl, rfl⟩
  refine s_val rfl (v_build Tryz.underlying144 Tryz.zeroValue144 (sized_cons Tryz.sizeOf3 (sized_cons Tryz.sizeOf3 (sized_cons Tryz.sizeOf3 sized_nil))) (fil_scal rfl Tryz.sizeOf3 rfl rfl (Nat.le_of_ble_eq_true rfl) SetL.eq (fil_scal rfl Tryz.sizeOf3 rfl rfl (Nat.le_of_ble_eq_true rfl) SetL.eq fil_nil))) ?_
  refine s_do rfl (d_sliceAgg Tryz.underlying24 Tryz.sizeOf144 Tryz.zeroValue144 rfl (elsK_cons rfl rfl elsK_nil) rfl (by decide) (by decide) (by decide)) ?_
  rintro _ _ ⟨b2, rfl, rfl⟩
  refine s_val rfl (v_build Tryz.underlying146 Tryz.zeroValue146 (sized_cons Tryz.sizeOf3 (sized_cons Tryz.sizeOf3 sized_nil)) (fil_scal rfl Tryz.sizeOf3 rfl rfl (Nat.le_of_ble_eq_true rfl) SetL.eq fil_nil)) ?_
  refine s_val rfl (v_build Tryz.underlying146 Tryz.zeroValue146 (sized_cons Tryz.sizeOf3 (sized_cons Tryz.sizeOf3 sized_nil)) (fil_scal rfl Tryz.sizeOf3 rfl rfl (Nat.le_of_ble_eq_true rfl) SetL.eq fil_nil)) ?_
  refine s_do rfl (d_sliceAgg Tryz.underlying25 Tryz.sizeOf146 Tryz.zeroValue146 rfl (elsK_cons rfl rfl (elsK_cons rfl rfl elsK_nil)) rfl (by decide) (by decide) (by decide)) ?_
  rintro _ _ ⟨b3, rfl, rfl⟩
  refine s_val rfl (v_build Tryz.underlying61 Tryz.zeroValue61 (sized_cons Tryz.sizeOf3 (sized_cons Tryz.sizeOf3 sized_nil)) (fil_scal rfl Tryz.sizeOf3 rfl rfl (Nat.le_of_ble_eq_true rfl) SetL.eq (fil_scal rfl Tryz.sizeOf3 rfl rfl (Nat.le_of_ble_eq_true rfl) SetL.eq fil_nil))) ?_
  refine s_do rfl (d_sliceAgg Tryz.underlying26 Tryz.sizeOf61 Tryz.zeroValue61 rfl (elsK_cons rfl rfl elsK_nil) rfl (by decide) (by decide) (by decide)) ?_
  rintro _ _ ⟨b4, rfl, rfl⟩
  refine s_val rfl (v_build Tryz.underlying87 Tryz.zeroValue87 (sized_cons Tryz.sizeOf3 (sized_cons Tryz.sizeOf3 sized_nil)) (fil_scal rfl Tryz.sizeOf3 rfl rfl (Nat.le_of_ble_eq_true rfl) SetL.eq fil_nil)) ?_
  refine s_do rfl (d_sliceAgg Tryz.underlying27 Tryz.sizeOf87 Tryz.zeroValue87 rfl (elsK_cons rfl rfl elsK_nil) rfl (by decide) (by decide) (by decide)) ?_
  rintro _ _ ⟨b5, rfl, rfl⟩
  refine s_val rfl (v_build Tryz.underlying29 Tryz.zeroValue29 (sized_cons Tryz.sizeOf3 (sized_cons Tryz.sizeOf23 (sized_cons Tryz.sizeOf24 (sized_cons Tryz.sizeOf25 (sized_cons Tryz.sizeOf26 (sized_cons Tryz.sizeOf27 (sized_cons Tryz.sizeOf3 (sized_cons Tryz.sizeOf3 sized_nil)))))))) (fil_scal rfl Tryz.sizeOf3 rfl rfl (Nat.le_of_ble_eq_true rfl) SetL.eq (fil_scal rfl Tryz.sizeOf23 rfl rfl (Nat.le_of_ble_eq_true rfl) SetL.eq (fil_scal rfl Tryz.sizeOf24 rfl rfl (Nat.le_of_ble_eq_true rfl) SetL.eq (fil_scal rfl Tryz.sizeOf25 rfl rfl (Nat.le_of_ble_eq_true rfl) SetL.eq (fil_scal rfl Tryz.sizeOf26 rfl rfl (Nat.le_of_ble_eq_true rfl) SetL.eq (fil_scal rfl Tryz.sizeOf27 rfl rfl (Nat.le_of_ble_eq_true rfl) SetL.eq (fil_scal rfl Tryz.sizeOf3 rfl rfl (Nat.le_of_ble_eq_true rfl) SetL.eq fil_nil)))))))) ?_
  refine s_do0 (d_storeAll Tryz.sizeOf29 rfl rfl rfl rfl rfl) ?_
  rintro _ _ rfl
  refine x_nil (n_then (x_ret (run_pt (b := b1) (o' := cob ([(1, 4, 2), (0, 4, 0)].flatMap gsV) 85) rfl ?_)))
  refine run_pt (b := b2) (o' := cob ([(0, 0, 4)].flatMap gsV) 144) rfl ?_
  refine run_pt (b := b3) (o' := cob ([(1, 0), (0, 1)].flatMap pairV) 146) rfl ?_
  refine run_pt (b := b4) (o' := cob ([(1, 0)].flatMap pairV) 61) rfl ?_
  refine run_pt (b := b5) (o' := cob ([(0, 1)].flatMap pairV) 87) rfl ?_
  refine x_done (.inl rfl) (.cons (r_all Tryz.isAgg29 Tryz.sizeOf29 rfl rfl) .nil) ?_
  exact ⟨_, ⟨b1, b2, b3, b4, b5, rfl, rfl⟩, inferInstance⟩
theorem tw_ok {W0 W : World} {b1 b2 b3 b4 b5 : Nat} {R : List HP} (hO : Own W0 W (twH b1 b2 b3 b4 b5 R)) : CfK W (twC b1 b2 b3 b4 b5) :=
  ⟨⟨sla_now hO (sla_pt (b := b1) (fun _ => rfl) rfl), sla_now hO (sla_pt (b := b2) (fun _ => rfl) rfl), sla_now hO (sla_pt (b := b3) (fun _ => rfl) rfl), sla_now hO (sla_pt (b := b4) (fun _ => rfl) rfl), sla_now hO (sla_pt (b := b5) (fun _ => rfl) rfl), Nat.le_refl _⟩, Nat.le_refl _⟩
end Go.Proofs.YtnidndllknffgaaGreat
namespace Go.Proofs.YtnidndllknffgaaGreat
open Go.RowKit
set_option linter.unusedSimpArgs false
set_option linter.unusedVariables false
def Zo (o : Obj) (p : Option Addr) (A : List HP) : Prop := p = none ∨ ∃ b, p = some ⟨b, 0, none⟩ ∧ Ent A [pt b o]
theorem Zo.cons {o : Obj} {p : Option Addr} {A : List HP} {c : HP} (h : Zo o p A) : Zo o p (c :: A) := by
  rcases h with h | ⟨b, h1, h2⟩
  · exact .inl h
  · exact .inr ⟨b, h1, Ent.drop.trans h2⟩
theorem zo_cell {W0 : World} {A : List HP} {b off ty : Nat} {l : List Value} {v : Value} (h : Ent A [pt b (cob l ty)]) (hv : l[off]? = some v) : Cell (OwnP W0 A) b off v :=
  Cell.weak (B := [pt b (cob l ty)]) (cell_own (R := []) hv)
end Go.Proofs.YtnidndllknffgaaGreat
