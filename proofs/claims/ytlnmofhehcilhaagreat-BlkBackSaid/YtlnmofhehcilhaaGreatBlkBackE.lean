/-
  Part 5 of the proof of BlkBack: rules, and walks of functions. Conditions: none.
-/
import Derived.Test.YtlnmofhehcilhaaGreatBlkBackD
namespace Go.Proofs.YtlnmofhehcilhaaGreat
open Go.RowKit
set_option linter.unusedSimpArgs false
set_option linter.unusedVariables false
set_option maxRecDepth 20000
theorem dk_Q {z : Int} (hz : isL z = true) : dkNew [(z, 0, 32)] = some (kQ z) := by
  have h1 : gvE [] 32 0 32 ((0 : Nat) : Int) = 0 := by decide
  have h2 : gvR [] 32 0 32 ((0 : Nat) : Int) = [(0, 32, 0)] := by decide +kernel
  have h3 : dnK [(z, 0, 32)] 1 = some ([(0, 32, 0)], [z]) := by
    show (if isL z = true ∧ gvE [] 32 0 32 ((0 : Nat) : Int) = 0 then some (gvR [] 32 0 32 ((0 : Nat) : Int), [] ++ [z]) else none) = _
    rw [if_pos ⟨hz, h1⟩, h2]; rfl
  show (if 8 < 1 then none else (dnK [(z, 0, 32)] 1).map _) = _
  rw [h3]; rfl
theorem or_Q : ∀ x : Nat, x < 4 → ∀ y : Nat, y < 4 → bOr .i64 (x : Int) (y : Int) = ((x ||| y : Nat) : Int) ∧ isL ((x ||| y : Nat) : Int) = true ∧ flB (x : Int) ((x ||| y : Nat) : Int) = true ∧ (bAndNot .i64 (x : Int) (y : Int) ≠ 0 ↔ flB ((x ||| y : Nat) : Int) (y : Int) = false) := by decide +kernel
theorem GOk.weak' {W0 : World} {A B : List HP} {g : Gst} (h : GOk (OwnP W0 B) g) [k : Ent A B] : GOk (OwnP W0 A) g :=
  ⟨h.l.weak, h.lo, h.h.weak, h.ho, h.a.weak, h.ao, h.b.weak, fun y hy => ⟨(h.bo y hy).1.weak, (h.bo y hy).2⟩, h.p, h.n⟩
@[reducible] def hQ (b1 b2 b3 b4 c n m k : Nat) (a : Option Addr) (bs : List Nat) (R : List HP) : List HP := pt b4 (cob [.slice a k c] 44) :: pt b3 (cob [.int .u32 320] 47) :: pt b2 (cob [.int .u8 0] 5) :: pt b1 (cob [.int .u32 320, .int .u32 n, .int .u32 1, .int .u32 1, .int .u32 384, .int .u32 m, .int .u32 2, .int .u32 0] 99) :: R
theorem gokQ {W0 : World} {R : List HP} {b1 b2 b3 b4 c n m k : Nat} {a : Option Addr} {bs : List Nat} (hk : bs.length = k) (hn : n ≤ 64) (hm : m ≤ 64) (hs : SlA (OwnP W0 R) a 1 (fun x => [bV x]) bs) (hb : By bs) (hl : k < 9223372036854775808) :
    GOk (OwnP W0 (hQ b1 b2 b3 b4 c n m k a bs R)) (gQ b1 b2 b3 b4 c n m a bs) := by
  subst hk
  refine ⟨sla_cells (.inr ⟨b1, rfl⟩) (cells_all (b := b1)) (fun _ => rfl) rfl (by decide), fun d hd => ?_, sla_cells (.inr ⟨b2, rfl⟩) (cells_all (b := b2)) (fun _ => rfl) rfl (by decide), fun x hx => ?_,
    sla_cells (.inr ⟨b3, rfl⟩) (cells_all (b := b3)) (fun _ => rfl) rfl (by decide), fun x hx => ?_, sla_cells (.inr ⟨b4, rfl⟩) (cells_all (b := b4)) (fun _ => rfl) rfl (by decide), fun y hy => ?_, by show (1 : Nat) < _; decide, ⟨by show (2 : Nat) < _; decide, by show (1 : Nat) < _; decide, by show (1 : Nat) < _; decide, by show (1 : Nat) < _; decide⟩⟩
  · simp at hd
    rcases hd with rfl | rfl
    · exact e0_ok hn
    · exact e1_ok hm
  · simp at hx; subst hx; decide
  · simp at hx; subst hx; decide
  · simp at hy; subst hy
    exact ⟨hs.weak, hb, hl⟩
theorem sla_16 {S : World → Prop} {a : Option Addr} {bs : List Nat} (hbl : bs.length = 16) (h : SlA S a 1 (fun x => [bV x]) (bs ++ [0])) : SlA S a 1 (fun x => [bV x]) bs := by
  have := h.take 16
  rwa [List.take_left' hbl] at this
theorem secD_set' {ss : List (List Nat)} (hl : ss.length = 32) {k : Nat} (hk : k < 32) {b : List Nat} : secD (ss.set k b) k = b := by
  unfold secD; simp [List.getD, hl, hk]
theorem BlkBack_walk (W0 : World) (bs : List Nat) (hbl : bs.length = 16) (hbb : By bs) (s w o : Nat) (hs : s < 256) (hw : w < 256) (ho : o < 256) :
    Spec Tryz.prog W0 5 [.agg (byV bs).toArray, .int .u8 s, .int .u8 w, .int .u8 o] [] (fun v B => v = .bool true ∧ B = []) := by
  refine spec_body Tryz.func5 Tryz.ntmps5 rfl rfl ?_
  refine x_seq (x_region (s_do rfl (d_boxA rfl) ?_))
  rintro _ _ ⟨bA, rfl, rfl⟩
  refine s_val rfl (v_assign rfl) (x_nil (n_then (x_seq (x_region (s_val rfl (v_move rfl) ?_)))))
  refine s_val rfl (v_rem rfl rfl (by decide) (tmodN s 32)) ?_
  refine s_val rfl (v_conv Tryz.underlying5 Tryz.underlying3 rfl (w64 (by omega))) ?_
  refine s_val rfl (v_assign rfl) (x_nil (n_then (x_seq (x_region (s_val rfl (v_move rfl) ?_)))))
  refine s_val rfl (v_rem rfl rfl (by decide) (tmodN w 4)) ?_
  refine s_val rfl (v_conv Tryz.underlying5 Tryz.underlying3 rfl (w64 (by omega))) ?_
  refine s_val rfl (v_assign rfl) (x_nil (n_then (x_seq (x_region (s_val rfl (v_move rfl) ?_)))))
  refine s_val rfl (v_rem rfl rfl (by decide) (tmodN o 4)) ?_
  refine s_val rfl (v_conv Tryz.underlying5 Tryz.underlying3 rfl (w64 (by omega))) ?_
  refine s_val rfl (v_assign rfl) (x_nil (n_then (x_seq ?_)))
  obtain ⟨n, hn⟩ : ∃ n, s % 32 = n := ⟨_, rfl⟩
  obtain ⟨x, hx⟩ : ∃ x, w % 4 = x := ⟨_, rfl⟩
  obtain ⟨y, hy⟩ : ∃ y, o % 4 = y := ⟨_, rfl⟩
  have hn32 : n < 32 := by omega
  have hx4 : x < 4 := by omega
  have hy4 : y < 4 := by omega
  rw [hn, hx, hy]
  obtain ⟨q1, q2, q3, q4⟩ := or_Q x hx4 y hy4
  obtain ⟨z, hz⟩ : ∃ z : Int, ((x ||| y : Nat) : Int) = z := ⟨_, rfl⟩
  rw [hz] at q1 q2 q3 q4
  have hkz := dk_Q q2
  have hk0 := dkNew_ok hkz
  refine x_region (s_val rfl (v_move rfl) (s_val rfl (v_move rfl) (s_val rfl (v_or rfl rfl (r := z) q1) ?_)))
  refine s_val rfl (v_build Tryz.underlying97 Tryz.zeroValue97 (sized_cons Tryz.sizeOf3 (sized_cons Tryz.sizeOf3 (sized_cons Tryz.sizeOf3 sized_nil))) (fil_scal rfl Tryz.sizeOf3 rfl rfl (Nat.le_of_ble_eq_true rfl) SetL.eq (fil_scal rfl Tryz.sizeOf3 rfl rfl (Nat.le_of_ble_eq_true rfl) SetL.eq (fil_scal rfl Tryz.sizeOf3 rfl rfl (Nat.le_of_ble_eq_true rfl) SetL.eq fil_nil)))) ?_
  refine s_do rfl (d_sliceAgg Tryz.underlying23 Tryz.sizeOf97 Tryz.zeroValue97 rfl (elsK_cons rfl rfl elsK_nil) rfl (by decide) (by decide) (by decide)) ?_
  rintro _ _ ⟨bl, rfl, rfl⟩
  refine s_do rfl (d_call Tryz.call43 rfl (dkNew_spec W0 _ (some ⟨bl, 0, none⟩) 1 [(z, 0, 32)] (sla_cells (.inr ⟨bl, rfl⟩) (cells_all (b := bl)) (fun _ => rfl) rfl (by decide)) (by show (1 : Nat) < _; decide))) ?_
  rintro _ B_ ⟨p, Y, rfl, hB_, _, hye⟩
  obtain rfl := hB_.symm
  obtain ⟨dd, rfl, rfl⟩ := hye _ hkz
  rw [hkz]
  simp only [List.cons_append, List.nil_append, Option.isSome_some, if_true]
  refine s_val rfl (v_move rfl) (s_val rfl (v_extract rfl rfl) (s_val rfl (v_extract rfl rfl) (s_val rfl (v_assign rfl) (s_val rfl (v_assign rfl) (x_nil (n_then (x_seq (x_seq (x_region (s_val rfl (v_move rfl) (s_val rfl (v_eql_ptr_nil Tryz.underlying93 rfl rfl) (s_val rfl (v_move rfl) ?_))))))))))))
  refine s_or rfl rfl rfl ?_ ?_
  · intro g5_3
    cases g5_3
  · intro g5_3
    refine s_val rfl (v_move rfl) (s_yes rfl rfl (s_val rfl (v_neq rfl rfl) (s_val rfl (v_pick_f rfl rfl) (x_nil (n_then ?_)))))
    refine x_if rfl ?_ ?_
    · intro c5
      exact absurd rfl c5
    · intro c5
      refine x_skip (n_then (x_seq (x_region (s_val rfl (v_build Tryz.underlying99 Tryz.zeroValue99 (sized_cons Tryz.sizeOf47 (sized_cons Tryz.sizeOf47 (sized_cons Tryz.sizeOf47 (sized_cons Tryz.sizeOf47 sized_nil)))) (fil_scal rfl Tryz.sizeOf47 rfl rfl (Nat.le_of_ble_eq_true rfl) SetL.eq (fil_scal rfl Tryz.sizeOf47 rfl rfl (Nat.le_of_ble_eq_true rfl) SetL.eq (fil_scal rfl Tryz.sizeOf47 rfl rfl (Nat.le_of_ble_eq_true rfl) SetL.eq (fil_scal rfl Tryz.sizeOf47 rfl rfl (Nat.le_of_ble_eq_true rfl) SetL.eq fil_nil))))) ?_))))
      refine s_val rfl (v_build Tryz.underlying99 Tryz.zeroValue99 (sized_cons Tryz.sizeOf47 (sized_cons Tryz.sizeOf47 (sized_cons Tryz.sizeOf47 (sized_cons Tryz.sizeOf47 sized_nil)))) (fil_scal rfl Tryz.sizeOf47 rfl rfl (Nat.le_of_ble_eq_true rfl) SetL.eq (fil_scal rfl Tryz.sizeOf47 rfl rfl (Nat.le_of_ble_eq_true rfl) SetL.eq (fil_scal rfl Tryz.sizeOf47 rfl rfl (Nat.le_of_ble_eq_true rfl) SetL.eq fil_nil)))) ?_
      refine s_do rfl (d_sliceAgg Tryz.underlying43 Tryz.sizeOf99 Tryz.zeroValue99 rfl (elsK_cons rfl rfl (elsK_cons rfl rfl elsK_nil)) rfl (by decide) (by decide) (by decide)) ?_
      rintro _ _ ⟨b1, rfl, rfl⟩
      refine s_do rfl (d_sliceLit Tryz.underlying45 Tryz.sizeOf47 Tryz.zeroValue47 rfl rfl rfl rfl rfl (by decide) (by decide)) ?_
      rintro _ _ ⟨b3, rfl, rfl⟩
      refine s_val rfl (v_move rfl) ?_
      refine s_val rfl (v_conv Tryz.underlying3 Tryz.underlying5 rfl (w8u (by omega))) ?_
      refine s_do rfl (d_sliceLit Tryz.underlying44 Tryz.sizeOf5 Tryz.zeroValue5 rfl rfl rfl rfl rfl (by decide) (by decide)) ?_
      rintro _ _ ⟨b5, rfl, rfl⟩
      refine run_ent (ent_osl0 (E := 5) (sz := 1) (g := b5) (n := 8) (by decide) rfl (k := ent_refl)) ?_
      refine s_val rfl (v_sliceArr Tryz.underlying92 Tryz.sizeOf5 rfl) ?_
      refine s_do rfl (d_append (sz := 1) (by_ := 1) (info := Tryz.t5) Tryz.underlying44 (by kernel_rfl) rfl rfl rfl rfl (by decide) rfl rfl (cells_all (b := bA)) (by rw [byV_len, hbl]) (byV_one _) (by simp only [maxLen]; omega) (by omega)) ?_
      rintro _ _ ⟨aT, cT, rfl, rfl⟩
      obtain ⟨T, hT⟩ : ∃ T, T = [1, 0, 0, 0, n, 0, 0, 0] ++ bs := ⟨_, rfl⟩
      have hTV : [Value.int .u8 1, .int .u8 0, .int .u8 0, .int .u8 0, .int .u8 (n : Int), .int .u8 0, .int .u8 0, .int .u8 0] ++ byV bs = byV T := by rw [hT]; rfl
      have hTl : T.length = 24 := by rw [hT, List.length_append, hbl]; rfl
      have hTb : By T := by rw [hT]; exact By.append (fun v hv => by simp at hv; omega) hbb
      rw [hTV, show 8 + 16 = 24 from rfl]
      refine run_pt (b := b1) (o' := cob [.int .u32 320, .int .u32 24, .int .u32 1, .int .u32 1, .int .u32 384, .int .u32 1, .int .u32 2, .int .u32 0] 99) rfl ?_
      refine run_form (E := 5) (sz := 1) (a := aT) (c := cT) (n := 24) (ys := byV T) (fun hfT => ?_)
      refine s_do rfl (d_sliceLit Tryz.underlying46 Tryz.sizeOf44 Tryz.zeroValue44 rfl rfl rfl rfl rfl (by decide) (by decide)) ?_
      rintro _ _ ⟨b4, rfl, rfl⟩
      refine s_do rfl (d_sliceLit Tryz.underlying44 Tryz.sizeOf5 Tryz.zeroValue5 rfl rfl rfl rfl rfl (by decide) (by decide)) ?_
      rintro _ _ ⟨b2, rfl, rfl⟩
      refine s_val rfl (v_build Tryz.underlying100 Tryz.zeroValue100 (sized_cons Tryz.sizeOf43 (sized_cons Tryz.sizeOf44 (sized_cons Tryz.sizeOf45 (sized_cons Tryz.sizeOf46 (sized_cons Tryz.sizeOf47 sized_nil))))) (fil_scal rfl Tryz.sizeOf43 rfl rfl (Nat.le_of_ble_eq_true rfl) SetL.eq (fil_scal rfl Tryz.sizeOf45 rfl rfl (Nat.le_of_ble_eq_true rfl) SetL.eq (fil_scal rfl Tryz.sizeOf46 rfl rfl (Nat.le_of_ble_eq_true rfl) SetL.eq (fil_scal rfl Tryz.sizeOf44 rfl rfl (Nat.le_of_ble_eq_true rfl) SetL.eq (fil_scal rfl Tryz.sizeOf47 rfl rfl (Nat.le_of_ble_eq_true rfl) SetL.eq fil_nil)))))) ?_
      refine s_do rfl (d_allocA Tryz.zeroValue100) ?_
      rintro _ _ ⟨b14, rfl, rfl⟩
      refine s_do0 (d_storeAll Tryz.sizeOf100 rfl rfl rfl rfl rfl) ?_
      rintro _ _ rfl
      refine x_nil (n_then (x_seq (x_region (s_val rfl (v_loadAll Tryz.isAgg100 Tryz.sizeOf100 rfl rfl) ?_))))
      refine s_do rfl (d_call Tryz.call44 rfl (made25_spec W0 _ (gQ b1 b2 b3 b4 cT 24 1 aT T) ((gokQ (R := [osl 5 1 (.slice aT 24 cT) (byV T)]) hTl (by decide) (by decide) (sla_cells hfT (cells_osl (E := 5) (sz := 1) (a := aT) (n := 24) (c := cT)) (fun _ => rfl) (byV_fm T).symm (by decide)) hTb (by decide)).weak') fit27)) ?_
      rintro _ B_ ⟨pv, ps, pm, qv, qs, qm, bq, br, rfl, hB_⟩
      obtain rfl := hB_.symm
      have hM := mk27_ok (gQ b1 b2 b3 b4 cT 24 1 aT T)
      obtain ⟨m1, m2⟩ := mem_Q (b1 := b1) (b2 := b2) (b3 := b3) (b4 := b4) (c := cT) (n := 24) (m := 1) (a := aT) (bs := T) (by decide) (by decide) hTb (by omega)
      generalize mk27 (gQ b1 b2 b3 b4 cT 24 1 aT T) = mm at hM m1 m2 ⊢
      have hrT : rdO mm.1 (pg23 8) 320 ((24 : Nat) : Int) = [1, 0, 0, 0, n, 0, 0, 0] ++ bs := by
        rw [← hT, ← hTl]; exact rd_list m1.len (by omega) m2
      refine s_val rfl (v_move rfl) (s_val rfl (v_extract rfl rfl) (s_val rfl (v_extract rfl rfl) (s_val rfl (v_extract rfl rfl) (s_val rfl (v_extract rfl rfl) (s_val rfl (v_assign rfl) (s_val rfl (v_assign rfl) (s_val rfl (v_assign rfl) (s_val rfl (v_assign rfl) (x_nil (n_then (x_seq (x_seq (x_region (s_val rfl (v_move rfl) (s_val rfl (v_eql_ptr_nil Tryz.underlying51 rfl rfl) (s_val rfl (v_move rfl) ?_))))))))))))))))
      refine s_or rfl rfl rfl ?_ ?_
      · intro g9_3
        cases g9_3
      · intro g9_3
        refine s_val rfl (v_move rfl) (s_yes rfl rfl (s_val rfl (v_move rfl) (s_yes rfl rfl (s_val rfl (v_move rfl) (s_yes rfl rfl (s_val rfl (v_move rfl) (s_yes rfl rfl (s_do rfl (d_call5 Tryz.call45 rfl (bkServe25 W0 _ bq pv dd ps pm (x : Int) mm hM (kQ z) hk0)) ?_))))))))
        rintro _ B_ ⟨y1, hy1, rfl, hB_⟩
        obtain rfl := hB_.symm
        obtain ⟨f1, d1, hgo⟩ := go_wr (d := mm.2) q3 hn32 hbl hbb hM.2.2 m1 hrT
        rw [show sb25 mm (kQ z) = ⟨mm.1, mm.2, q27, kQ z, 0, 0, 0, 0⟩ from rfl, hgo] at hy1
        subst hy1
        dsimp only [SbS.v]
        have hk1 : DkOk (dkSet (kQ z) n bs) := dkSet_ok hk0 ⟨hbl, hbb⟩
        refine s_yes rfl rfl (s_val rfl (v_build Tryz.underlying67 Tryz.zeroValue67 (sized_cons Tryz.sizeOf3 (sized_cons Tryz.sizeOf3 (sized_cons Tryz.sizeOf3 (sized_cons Tryz.sizeOf3 sized_nil)))) (fil_scal rfl Tryz.sizeOf3 rfl rfl (Nat.le_of_ble_eq_true rfl) SetL.eq (fil_scal rfl Tryz.sizeOf3 rfl rfl (Nat.le_of_ble_eq_true rfl) SetL.eq (fil_scal rfl Tryz.sizeOf3 rfl rfl (Nat.le_of_ble_eq_true rfl) SetL.eq fil_nil)))) ?_)
        refine s_yes rfl rfl (s_val rfl (v_neq_agg Tryz.eqGuardType67 rfl rfl (q_struct Tryz.underlying67 Tryz.stoodInHeld67 (qf_scal rfl Tryz.isAgg3 rfl rfl (q_int Tryz.underlying3) (qf_scal rfl Tryz.isAgg3 rfl rfl (q_int Tryz.underlying3) (qf_scal rfl Tryz.isAgg3 rfl rfl (q_int Tryz.underlying3) (qf_scal rfl Tryz.isAgg3 rfl rfl (q_int Tryz.underlying3) qf_nil)))))) ?_)
        refine s_val rfl (v_pick_f rfl rfl) (x_nil (n_then ?_))
        refine x_if rfl ?_ ?_
        · intro c9
          exact absurd (by decide) c9
        · intro c9
          refine x_skip (n_then (x_seq (x_region (s_do rfl (d_call Tryz.call46 rfl (asks25_spec W0 _)) ?_))))
          rintro _ B_ ⟨c1_, c2_, rfl, hB_⟩
          obtain rfl := hB_.symm
          refine s_do rfl (d_allocA Tryz.zeroValue100) ?_
          rintro _ _ ⟨b19, rfl, rfl⟩
          refine s_do0 (d_storeAll Tryz.sizeOf100 rfl rfl rfl rfl rfl) ?_
          rintro _ _ rfl
          refine x_nil (n_then (x_seq (x_region ?_)))
          refine s_do rfl (d_sliceLit Tryz.underlying45 Tryz.sizeOf47 Tryz.zeroValue47 rfl rfl rfl rfl rfl (by decide) (by decide)) ?_
          rintro _ _ ⟨b33, rfl, rfl⟩
          refine s_val rfl (v_fieldAddr rfl Tryz.underlying100 rfl Tryz.sizeOf45 rfl (by first | exact Nat.zero_add _ | rfl)) ?_
          refine s_do0 (d_store Tryz.sizeOf45 rfl rfl rfl (Nat.le_of_ble_eq_true rfl) SetL.eq) ?_
          rintro _ _ rfl
          refine x_nil (n_then (x_seq (x_region (s_val rfl (v_move rfl) ?_))))
          refine s_val rfl (v_conv Tryz.underlying3 Tryz.underlying5 rfl (w8u (by omega))) ?_
          refine s_do rfl (d_sliceLit Tryz.underlying44 Tryz.sizeOf5 Tryz.zeroValue5 rfl rfl rfl rfl rfl (by decide) (by decide)) ?_
          rintro _ _ ⟨b55, rfl, rfl⟩
          refine s_do rfl (d_sliceLit Tryz.underlying46 Tryz.sizeOf44 Tryz.zeroValue44 rfl rfl rfl rfl rfl (by decide) (by decide)) ?_
          rintro _ _ ⟨b44, rfl, rfl⟩
          refine s_val rfl (v_fieldAddr rfl Tryz.underlying100 rfl Tryz.sizeOf46 rfl (by first | exact Nat.zero_add _ | rfl)) ?_
          refine s_do0 (d_store Tryz.sizeOf46 rfl rfl rfl (Nat.le_of_ble_eq_true rfl) SetL.eq) ?_
          rintro _ _ rfl
          refine x_nil (n_then (x_seq (x_region (s_val rfl (v_loadAll Tryz.isAgg100 Tryz.sizeOf100 rfl rfl) ?_))))
          refine s_do rfl (d_call Tryz.call44 rfl (made25_spec W0 _ (gQ c1_ c2_ b33 b44 8 8 17 (some ⟨b55, 0, none⟩) [0, 0, 0, 0, n, 0, 0, 0]) ((gokQ (R := [pt b55 (cob [.int .u8 0, .int .u8 0, .int .u8 0, .int .u8 0, .int .u8 n, .int .u8 0, .int .u8 0, .int .u8 0] 5)]) rfl (by decide) (by decide) (sla_cells (.inr ⟨b55, rfl⟩) (cells_all (b := b55)) (fun _ => rfl) rfl (by decide)) (fun v hv => by simp at hv; omega) (by show 8 < 9223372036854775808; decide)).weak') fit27)) ?_
          rintro _ B_ ⟨pv2, ps2, pm2, qv2, qs2, qm2, bq2, br2, rfl, hB_⟩
          obtain rfl := hB_.symm
          have hM2 := mk27_ok (gQ c1_ c2_ b33 b44 8 8 17 (some ⟨b55, 0, none⟩) [0, 0, 0, 0, n, 0, 0, 0])
          obtain ⟨n1, n2⟩ := mem_Q (b1 := c1_) (b2 := c2_) (b3 := b33) (b4 := b44) (c := 8) (n := 8) (m := 17) (a := some ⟨b55, 0, none⟩) (bs := [0, 0, 0, 0, n, 0, 0, 0]) (by decide) (by decide) (fun v hv => by simp at hv; omega) (by show 8 ≤ 64; decide)
          generalize mk27 (gQ c1_ c2_ b33 b44 8 8 17 (some ⟨b55, 0, none⟩) [0, 0, 0, 0, n, 0, 0, 0]) = mk at hM2 n1 n2 ⊢
          have hrT2 : rdO mk.1 (pg23 8) 320 ((8 : Nat) : Int) = [0, 0, 0, 0, n, 0, 0, 0] ++ [] := rd_list n1.len (l := [0, 0, 0, 0, n, 0, 0, 0]) (by show 320 + 8 ≤ 512; decide) n2
          have hlb : lbW (dkSet (kQ z) n bs) (n : Int) = some z := lbW_kS hn32
          have hsc : secD (dkSet (kQ z) n bs).ss n = bs := by
            show secD ((List.replicate 32 z16).set n bs) n = bs
            rw [secD_set' (by simp) hn32]
          refine s_val rfl (v_move rfl) (s_val rfl (v_extract rfl rfl) (s_val rfl (v_extract rfl rfl) (s_val rfl (v_extract rfl rfl) (s_val rfl (v_extract rfl rfl) (s_val rfl (v_assign rfl) (s_val rfl (v_assign rfl) (s_val rfl (v_assign rfl) (s_val rfl (v_assign rfl) (x_nil (n_then (x_seq (x_seq (x_region (s_val rfl (v_move rfl) (s_val rfl (v_eql_ptr_nil Tryz.underlying51 rfl rfl) (x_nil (n_then ?_)))))))))))))))))
          refine x_if rfl ?_ ?_
          · intro c15
            cases c15
          · intro c15
            refine x_skip (n_then (x_seq (x_region (s_val rfl (v_move rfl) (s_val rfl (v_move rfl) (s_val rfl (v_move rfl) (s_val rfl (v_move rfl) (s_do rfl (d_call5 Tryz.call45 rfl (bkServe25 W0 _ bq2 pv2 dd ps2 pm2 (y : Int) mk hM2 (dkSet (kQ z) n bs) hk1)) ?_))))))))
            rintro _ B_ ⟨y2, hy2, rfl, hB_⟩
            obtain rfl := hB_.symm
            have hyo := sbGo_ok (pg := pg23 8) (who := (y : Int)) 4 (sb_start hM2 hk1)
            rw [← hy2] at hyo
            have hres : (flB z (y : Int) = true → SbS.v y2 = [.int .i64 1, .int .i64 2, .int .i64 16, .int .i64 0] ∧ rdO y2.fr (pg23 8) 384 17 = bs ++ [0]) ∧ (flB z (y : Int) = false → SbS.v y2 = [.int .i64 1, .int .i64 2, .int .i64 0, .int .i64 0] ∧ ∃ t, t.length = 16 ∧ rdO y2.fr (pg23 8) 384 17 = t ++ [1]) := by
              rw [show sb25 mk (dkSet (kQ z) n bs) = ⟨mk.1, mk.2, q27, dkSet (kQ z) n bs, 0, 0, 0, 0⟩ from rfl] at hy2
              constructor
              · intro hf
                obtain ⟨f2, d2, hgo, hr⟩ := go_rd (d := mk.2) hlb hsc hf hn32 hbl hbb hM2.2.2 n1 hrT2
                rw [hgo] at hy2; subst hy2; exact ⟨rfl, hr⟩
              · intro hf
                obtain ⟨f2, d2, hgo, t, ht, hr⟩ := go_no (d := mk.2) hlb (by rw [hf]; decide) hn32 hM2.2.2 n1 hrT2
                rw [hgo] at hy2; subst hy2; exact ⟨rfl, t, ht, hr⟩
            have hlen : (rdO y2.fr (pg23 8) 384 17).length = 17 := by
              cases hf : flB z (y : Int) with
              | true => rw [(hres.1 hf).2, List.length_append, hbl]; rfl
              | false => obtain ⟨_, t, ht, hr⟩ := hres.2 hf; rw [hr, List.length_append, ht]; rfl
            clear hy2
            refine s_do rfl (d_allocA Tryz.zeroValue67) ?_
            rintro _ _ ⟨b24, rfl, rfl⟩
            refine s_do0 (d_storeAll Tryz.sizeOf67 rfl rfl rfl rfl rfl) ?_
            rintro _ _ rfl
            refine x_nil (n_then (x_seq (x_region (s_val rfl (v_move rfl) ?_))))
            refine s_do rfl (d_call3 Tryz.call47 rfl (viRead_spec W0 _ pv2 ps2 pm2 y2.d y2.fr (pg23 8) (pg23_ok 8) hyo.frs 384 (by decide) 17)) ?_
            rintro _ B_ ⟨ar, cr, rfl, hB_⟩
            obtain rfl := hB_.symm
            obtain ⟨G, hG⟩ : ∃ G, rdO y2.fr (pg23 8) 384 17 = G := ⟨_, rfl⟩
            rw [hG] at hres hlen ⊢
            refine run_form (E := 5) (sz := 1) (a := ar) (c := cr) (n := G.length) (ys := byV G) (fun hfR => ?_)
            refine run_cap (E := 5) (sz := 1) (a := ar) (c := cr) (n := G.length) (fun hcap => ?_)
            obtain ⟨gr, rfl⟩ := form_some hfR (byV_ne (by omega))
            rw [hlen] at hcap ⊢
            refine s_val rfl (v_move rfl) (s_val rfl (v_extract rfl rfl) (s_val rfl (v_extract rfl rfl) (s_val rfl (v_assign rfl) (s_val rfl (v_assign rfl) (x_nil (n_then (x_seq (x_seq (x_region (s_val rfl (v_move rfl) (s_val rfl (v_len_slice Tryz.underlying44 rfl) (s_val rfl (v_neq rfl rfl) (x_nil (n_then ?_))))))))))))))
            refine x_if rfl ?_ ?_
            · intro c19
              exact absurd rfl c19
            · intro c19
              refine x_skip (n_then (x_seq (x_seq (x_region (s_val rfl (v_move rfl) (s_val rfl (v_move rfl) (s_val rfl (v_andNot rfl rfl (r := bAndNot .i64 (x : Int) (y : Int)) rfl) ?_)))))))
              refine s_val rfl (v_neq rfl rfl) (x_nil (n_then ?_))
              refine x_if rfl ?_ ?_
              · intro c21
                have hf : flB z (y : Int) = false := q4.1 c21
                obtain ⟨hv, t, ht, hr⟩ := hres.2 hf
                subst hr
                rw [hv]
                refine x_seq (x_region (s_val rfl (v_loadAll Tryz.isAgg67 Tryz.sizeOf67 rfl rfl) ?_))
                refine s_val rfl (v_build Tryz.underlying67 Tryz.zeroValue67 (sized_cons Tryz.sizeOf3 (sized_cons Tryz.sizeOf3 (sized_cons Tryz.sizeOf3 (sized_cons Tryz.sizeOf3 sized_nil)))) (fil_scal rfl Tryz.sizeOf3 rfl rfl (Nat.le_of_ble_eq_true rfl) SetL.eq (fil_scal rfl Tryz.sizeOf3 rfl rfl (Nat.le_of_ble_eq_true rfl) SetL.eq fil_nil))) ?_
                refine s_val rfl (v_eql_agg Tryz.eqGuardType67 rfl rfl (q_struct Tryz.underlying67 Tryz.stoodInHeld67 (qf_scal rfl Tryz.isAgg3 rfl rfl (q_int Tryz.underlying3) (qf_scal rfl Tryz.isAgg3 rfl rfl (q_int Tryz.underlying3) (qf_scal rfl Tryz.isAgg3 rfl rfl (q_int Tryz.underlying3) (qf_scal rfl Tryz.isAgg3 rfl rfl (q_int Tryz.underlying3) qf_nil)))))) ?_
                refine s_val rfl (v_move rfl) ?_
                refine s_and rfl rfl rfl ?_ ?_
                · intro g22_4
                  refine s_val rfl (v_move rfl) (s_yes rfl rfl ?_)
                  refine s_val rfl (v_idx Tryz.underlying44 Tryz.sizeOf5 rfl rfl (i := 16) rfl (by decide) (by first | exact Nat.zero_add _ | rfl)) ?_
                  refine s_yes rfl rfl ?_
                  refine s_val rfl (v_load Tryz.isAgg5 rfl (cell_osl (E := 5) (sz := 1) (n := 17) (c := cr) (by rw [byV, List.getElem?_map, List.getElem?_append_right (Nat.le_of_eq ht), ht]; rfl))) ?_
                  refine s_yes rfl rfl (s_val rfl (v_eql rfl rfl) (s_val rfl (v_pick_t rfl rfl) (s_val rfl (v_move rfl) ?_)))
                  refine s_and rfl rfl rfl ?_ ?_
                  · intro g22_10
                    refine s_do rfl (d_call Tryz.call48 rfl (awake25_spec W0 _)) ?_
                    rintro _ B_ ⟨rfl, hB_⟩
                    obtain rfl := hB_.symm
                    refine s_val rfl (v_pick_t rfl rfl) (s_val rfl (v_assign rfl) (x_nil (n_then (x_ret (r_then (x_done (.inl rfl) (.cons (r_tmp rfl) .nil) ?_))))))
                    exact ⟨_, ⟨rfl, rfl⟩, inferInstance⟩
                  · intro g22_10
                    exact absurd (by decide) g22_10
                · intro g22_4
                  exact absurd (by decide) g22_4
              · intro c21
                have hf : flB z (y : Int) = true := by
                  rw [← Bool.not_eq_false]; intro q; exact c21 (q4.2 q)
                obtain ⟨hv, hr⟩ := hres.1 hf
                subst hr
                rw [hv]
                refine x_skip (n_then (x_seq ?_))
                refine x_draw [(b24, 0, _), (gr, 0, byV (bs ++ [0])), (bA, 0, byV bs)] 21 mixed rfl (sc_own (sc_cons (cells_osl (E := 5) (sz := 1) (a := some ⟨gr, 0, none⟩) (n := 17) (c := cr)) (sc_own sc_end))) (fun hS => ?_)
                refine d_take 0 rfl rfl (by kernel_rfl) (by kernel_rfl) (by kernel_rfl) rfl hS (v_loadAgg Tryz.isAgg67 Tryz.sizeOf67 rfl (by first | exact cells_sc (k := 0) rfl | exact cells_sc (k := 1) rfl | exact cells_sc (k := 2) rfl | exact cells_sc (k := 3) rfl) rfl) ?_
                refine d_take 1 rfl rfl (by kernel_rfl) (by kernel_rfl) (by kernel_rfl) rfl hS (v_build Tryz.underlying67 Tryz.zeroValue67 (sized_cons Tryz.sizeOf3 (sized_cons Tryz.sizeOf3 (sized_cons Tryz.sizeOf3 (sized_cons Tryz.sizeOf3 sized_nil)))) (fil_scal rfl Tryz.sizeOf3 rfl rfl (Nat.le_of_ble_eq_true rfl) SetL.eq (fil_scal rfl Tryz.sizeOf3 rfl rfl (Nat.le_of_ble_eq_true rfl) SetL.eq (fil_scal rfl Tryz.sizeOf3 rfl rfl (Nat.le_of_ble_eq_true rfl) SetL.eq fil_nil)))) ?_
                refine d_take 2 rfl rfl (by kernel_rfl) (by kernel_rfl) (by kernel_rfl) rfl hS (v_eql_agg Tryz.eqGuardType67 rfl rfl (q_struct Tryz.underlying67 Tryz.stoodInHeld67 (qf_scal rfl Tryz.isAgg3 rfl rfl (q_int Tryz.underlying3) (qf_scal rfl Tryz.isAgg3 rfl rfl (q_int Tryz.underlying3) (qf_scal rfl Tryz.isAgg3 rfl rfl (q_int Tryz.underlying3) (qf_scal rfl Tryz.isAgg3 rfl rfl (q_int Tryz.underlying3) qf_nil)))))) ?_
                refine d_take 3 rfl rfl (by kernel_rfl) (by kernel_rfl) (by kernel_rfl) rfl hS (v_move rfl) ?_
                refine x_split (t := 130) rfl ?_ ?_
                · intro g23_4
                  refine d_take 4 rfl rfl (by kernel_rfl) (by kernel_rfl) (by kernel_rfl) rfl hS (v_move rfl) ?_
                  refine d_take 5 rfl rfl (by kernel_rfl) (by kernel_rfl) (by kernel_rfl) rfl hS (v_sliceH Tryz.underlying44 Tryz.sizeOf5 rfl rfl (h := 16) rfl (by omega)) ?_
                  refine d_take 6 rfl rfl (by kernel_rfl) (by kernel_rfl) (by kernel_rfl) rfl hS (v_bstrSN (bs := bs) Tryz.underlying44 Tryz.underlying5 Tryz.underlying9 rfl hbl (sla_16 hbl (sla_byV (cells_sc (k := 1) rfl)))) ?_
                  refine d_take 7 rfl rfl (by kernel_rfl) (by kernel_rfl) (by kernel_rfl) rfl hS (v_sliceArr Tryz.underlying92 Tryz.sizeOf5 rfl) ?_
                  refine d_take 8 rfl rfl (by kernel_rfl) (by kernel_rfl) (by kernel_rfl) rfl hS (v_bstrSN (bs := bs) Tryz.underlying44 Tryz.underlying5 Tryz.underlying9 rfl hbl (sla_byV (cells_sc (k := 2) rfl))) ?_
                  refine d_take 9 rfl rfl (by kernel_rfl) (by kernel_rfl) (by kernel_rfl) rfl hS (v_eql_str rfl rfl) ?_
                  refine d_take 10 rfl rfl (by kernel_rfl) (by kernel_rfl) (by kernel_rfl) rfl hS (v_pick_t rfl rfl) ?_
                  refine d_take 11 rfl rfl (by kernel_rfl) (by kernel_rfl) (by kernel_rfl) rfl hS (v_move rfl) ?_
                  refine x_split (t := 138) rfl ?_ ?_
                  · intro g23_12
                    refine d_take 12 rfl rfl (by kernel_rfl) (by kernel_rfl) (by kernel_rfl) rfl hS (v_move rfl) ?_
                    refine d_take 13 rfl rfl (by kernel_rfl) (by kernel_rfl) (by kernel_rfl) rfl hS (v_idx Tryz.underlying44 Tryz.sizeOf5 rfl rfl (i := 16) rfl (by decide) (by first | exact Nat.zero_add _ | rfl)) ?_
                    refine d_take 14 rfl rfl (by kernel_rfl) (by kernel_rfl) (by kernel_rfl) rfl hS (v_load Tryz.isAgg5 rfl (cell_sc0 (k := 1) rfl (by rw [byV, List.getElem?_map, List.getElem?_append_right (Nat.le_of_eq hbl), hbl]; rfl))) ?_
                    refine d_take 15 rfl rfl (by kernel_rfl) (by kernel_rfl) (by kernel_rfl) rfl hS (v_eql rfl rfl) ?_
                    refine d_take 16 rfl rfl (by kernel_rfl) (by kernel_rfl) (by kernel_rfl) rfl hS (v_pick_t rfl rfl) ?_
                    refine d_take 17 rfl rfl (by kernel_rfl) (by kernel_rfl) (by kernel_rfl) rfl hS (v_move rfl) ?_
                    refine x_split (t := 144) rfl ?_ ?_
                    · intro g23_18
                      refine d_one 18 (by kernel_rfl) rfl rfl (d_call Tryz.call48 rfl (awake25_spec W0 _)) rfl ?_; clear hS
                      rintro _ B_ ⟨rfl, hB_⟩
                      obtain rfl := hB_.symm
                      refine ⟨(sc_own (sc_cons (cells_osl (E := 5) (sz := 1) (a := some ⟨gr, 0, none⟩) (n := 17) (c := cr)) (sc_own sc_end))), fun hS => ?_⟩
                      refine d_take 19 rfl rfl (by kernel_rfl) (by kernel_rfl) (by kernel_rfl) rfl hS (v_pick_t rfl rfl) ?_
                      refine d_take 20 rfl rfl (by kernel_rfl) (by kernel_rfl) (by kernel_rfl) rfl hS (v_assign rfl) ?_
                      refine d_done (by kernel_rfl) ?_; clear hS
                      refine n_then (x_ret (x_done (.inl rfl) (.cons (r_tmp rfl) .nil) ?_))
                      exact ⟨_, ⟨rfl, rfl⟩, inferInstance⟩
                    · intro g23_18
                      exact absurd (by simp) g23_18
                  · intro g23_12
                    exact absurd (by simp) g23_12
                · intro g23_4
                  exact absurd (by simp) g23_4
end Go.Proofs.YtlnmofhehcilhaaGreat
namespace Go.Proofs.YtlnmofhehcilhaaGreat
open Go.ChangeShapes Go.WideShapes Go.ChangeAt Go.RowKit
set_option linter.unusedSimpArgs false
set_option linter.unusedVariables false
theorem own : ownKnob Tryz.prog.godebug = none := by kernel_rfl
theorem laidOut : laidOutB Tryz.prog = true := by kernel_rfl
variable {W : World} {v : Value}
theorem wf_u8 {n : Int} (h : (Lit.int .u8 n).wf = true) : ∃ w : Nat, n = (w : Int) ∧ w < 256 := by
  simp [Lit.wf, IntKind.min, IntKind.max, IntKind.signed, IntKind.bits] at h
  exact ⟨n.toNat, by omega, by omega⟩
theorem ty_u8 (h : Ty Tryz.prog W 5 v) : ∃ w : Nat, v = .int .u8 w ∧ w < 256 := by
  obtain ⟨n, rfl, hw⟩ := ty_int Tryz.underlying5 h
  obtain ⟨w, rfl, h'⟩ := wf_u8 hw
  exact ⟨w, rfl, h'⟩
end Go.Proofs.YtlnmofhehcilhaaGreat
namespace Go.Proofs.YtlnmofhehcilhaaGreat
open Go.ChangeShapes Go.WideShapes Go.ChangeAt Go.RowKit
set_option linter.unusedSimpArgs false
set_option linter.unusedVariables false
variable {W : World} {v : Value}
end Go.Proofs.YtlnmofhehcilhaaGreat
namespace Go.Proofs.YtlnmofhehcilhaaGreat
open Go.ChangeShapes Go.WideShapes Go.ChangeAt Go.RowKit
set_option linter.unusedSimpArgs false
set_option linter.unusedVariables false
variable {W : World} {v : Value}
end Go.Proofs.YtlnmofhehcilhaaGreat
namespace Go.Proofs.YtlnmofhehcilhaaGreat
open Go.ChangeShapes Go.WideShapes Go.ChangeAt Go.RowKit
set_option linter.unusedSimpArgs false
set_option linter.unusedVariables false
variable {W : World} {v : Value}
end Go.Proofs.YtlnmofhehcilhaaGreat
namespace Go.Proofs.YtlnmofhehcilhaaGreat
open Go.ChangeShapes Go.WideShapes Go.ChangeAt Go.RowKit
set_option linter.unusedSimpArgs false
set_option linter.unusedVariables false
variable {W : World} {v : Value}
end Go.Proofs.YtlnmofhehcilhaaGreat
namespace Go.Proofs.YtlnmofhehcilhaaGreat
open Go.ChangeShapes Go.WideShapes Go.ChangeAt Go.RowKit
set_option linter.unusedSimpArgs false
set_option linter.unusedVariables false
theorem okWide_arr {P : Program} {w : World} {r : Reach} {base : Nat} {t : TypeId} {v : Value} {n e : Nat} (ht : P.underlying t = some (.array n e)) (h : Value.okWide P w r base t v) : ∃ cs, v = .agg cs ∧ cs.size = P.cellsOf t := by
  simp only [Value.okWide, ht] at h
  obtain ⟨cs, h1, h2, _⟩ := h
  exact ⟨cs, h1, h2⟩
theorem ty_array {P : Program} {W : World} {t : TypeId} {v : Value} {n e : Nat} (hu : P.underlying t = some (.array n e)) (h : Ty P W t v) : ∃ l : List Value, v = .agg l.toArray ∧ l.length = P.cellsOf t ∧ ∃ fuel, ∀ i, i < n → InT P W fuel e ((l.drop (i * P.cellsOf e)).take (P.cellsOf e)) := by
  obtain ⟨⟨r, b, h1⟩, fuel, h2⟩ := h
  obtain ⟨cs, rfl, _⟩ := okWide_arr hu h1
  cases fuel with
  | zero => exact absurd h2 (by simp [InT])
  | succ f =>
    unfold InT at h2
    simp only [hu] at h2
    exact ⟨cs.toList, by simp, h2.1, f, h2.2⟩
variable {W : World} {v : Value}
theorem ty_arr16 (h : Ty Tryz.prog W 92 v) : ∃ bs : List Nat, v = .agg (byV bs).toArray ∧ bs.length = 16 ∧ By bs := by
  obtain ⟨l, rfl, hl, f, hi⟩ := ty_array Tryz.underlying92 h
  have hl16 : l.length = 16 := hl.trans (by kernel_rfl)
  rw [show Tryz.prog.cellsOf 5 = 1 by kernel_rfl] at hi
  have key : ∀ k, k ≤ 16 → ∃ bs : List Nat, l.take k = byV bs ∧ bs.length = k ∧ By bs := by
    intro k
    induction k with
    | zero => intro _; exact ⟨[], by simp [byV], rfl, fun x hx => by simp at hx⟩
    | succ k ih =>
      intro hk
      obtain ⟨bs, e1, e2, e3⟩ := ih (by omega)
      have h1 := hi k (by omega)
      rw [Nat.mul_one] at h1
      obtain ⟨m, em, hm⟩ := inT_int Tryz.underlying5 h1
      obtain ⟨x, rfl, hx⟩ := wf_u8 hm
      have hlt : k < l.length := by omega
      have h0 : (l.drop k).take 1 = [l[k]] := by
        rw [List.drop_eq_getElem_cons hlt]; rfl
      rw [h0] at em
      have hv : l[k] = .int .u8 (x : Int) := (List.cons.inj em).1
      refine ⟨bs ++ [x], ?_, by rw [List.length_append, e2]; rfl, e3.append (fun y hy => by simp at hy; omega)⟩
      rw [List.take_succ_eq_append_getElem hlt, e1, hv, byV_append]; rfl
  obtain ⟨bs, e1, e2, e3⟩ := key 16 (Nat.le_refl _)
  rw [List.take_of_length_le (by omega)] at e1
  exact ⟨bs, by rw [e1], e2, e3⟩
end Go.Proofs.YtlnmofhehcilhaaGreat
