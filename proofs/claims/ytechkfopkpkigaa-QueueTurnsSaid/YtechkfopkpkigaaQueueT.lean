/-
  Layer 23 (queue): QueueTurns, the plain law and the walk.
-/
import Derived.Test.YtechkfopkpkigaaMemWd
import Derived.Test.YtechkfopkpkigaaQueueD
import Derived.Test.YtechkfopkpkigaaQueueJ
namespace Go.Proofs.Ytechkfopkpkigaa
open Go.RowKit
set_option linter.unusedSimpArgs false
set_option linter.unusedVariables false
set_option maxRecDepth 20000

@[reducible] def tq (n i p : Nat) : QS := ⟨⟨0, 128, 192, n⟩, true, 0, i, p⟩
theorem tq_ok {n i p : Nat} (hn : n = 2 ∨ n = 4 ∨ n = 8) (hi : i < 65536) (hp : p < 65536) : QOk (tq n i p) := ⟨fun _ => by show (n : Int) = 2 ∨ (n : Int) = 4 ∨ (n : Int) = 8; omega, fun _ => by show (128 : Nat) ≤ 1000; decide, fun _ => by show (192 : Nat) ≤ 1000; decide, hi, hp⟩
theorem hdT {fr : List Frm} (hF : Frs fr) (hl : fr.length = 8) {n last : Nat} (hn : n = 2 ∨ n = 4 ∨ n = 8) :
    hdR fr (pg23 8) 128 last n = if n < wtN last (wd fr 32) then (0, false, 7) else if wtN last (wd fr 32) = 0 then (0, false, 0) else if n ≤ wd fr (33 + last % n) then (0, false, 1) else (wd fr (33 + last % n), true, 0) := by
  have hm := Nat.mod_lt last (show 0 < n by omega)
  have hA : hdA 128 last n = 4 * (33 + last % n) := by unfold hdA; omega
  have h1 : ownB fr.length (pg23 8) 128 4 = true := by rw [hl]; exact own23 32 (by decide)
  have h2 : ownB fr.length (pg23 8) ((4 * (33 + last % n) : Nat) : Nat) 4 = true := by rw [hl]; exact own23 _ (by omega)
  rw [hdR, if_pos h1, hA, if_pos h2]; rfl
theorem nx_tq {fr : List Frm} {pg : List Pl} {n i p : Nat} {r : Nat × Bool × Int} (h : hdR fr pg 128 i n = r) :
    nxR fr pg (tq n i p) = (if r.2.2 ≠ 0 then (0, false, r.2.2) else r) ∧ nxS fr pg (tq n i p) = (if r.2.2 ≠ 0 then { tq n i p with br := r.2.2 } else if r.2.1 then tq n ((i + 1) % 65536) p else tq n i p) := by
  subst h; exact ⟨rfl, rfl⟩
theorem stepT0 {fr : List Frm} (hF : Frs fr) (hl : fr.length = 8) {n i p : Nat} (hn : n = 2 ∨ n = 4 ∨ n = 8) (hi : i < 60000) (hw : wd fr 32 = i) : nxR fr (pg23 8) (tq n i p) = (0, false, 0) ∧ nxS fr (pg23 8) (tq n i p) = tq n i p := by
  have h := hdT hF hl (last := i) hn
  rw [hw, show wtN i i = 0 by unfold wtN; omega, if_neg (by omega), if_pos rfl] at h
  exact nx_tq h
theorem stepT1 {fr : List Frm} (hF : Frs fr) (hl : fr.length = 8) {n i p h : Nat} (hn : n = 2 ∨ n = 4 ∨ n = 8) (hi : i < 60000) (hw : wd fr 32 = i + 1) (hh : wd fr (33 + i % n) = h) (hlt : h < n) :
    nxR fr (pg23 8) (tq n i p) = (h, true, 0) ∧ nxS fr (pg23 8) (tq n i p) = tq n (i + 1) p := by
  have k := hdT hF hl (last := i) hn
  rw [hw, show wtN i (i + 1) = 1 by unfold wtN; omega, if_neg (by omega), if_neg (by omega), hh, if_neg (by omega)] at k
  obtain ⟨h1, h2⟩ := nx_tq (p := p) k
  refine ⟨h1, h2.trans ?_⟩
  show tq n ((i + 1) % 65536) p = tq n (i + 1) p
  rw [Nat.mod_eq_of_lt (by omega)]
theorem doneT {fr : List Frm} (hF : Frs fr) (hl : fr.length = 8) {n i h d : Nat} (hn : n = 2 ∨ n = 4 ∨ n = 8) (hi : i < 60000) (hd : d < 4096) (hlt : h < n) :
    (dnX fr (pg23 8) d (tq n (i + 1) i) h i).c = 0 ∧ (dnX fr (pg23 8) d (tq n (i + 1) i) h i).s = tq n (i + 1) (i + 1) ∧ Frs (dnX fr (pg23 8) d (tq n (i + 1) i) h i).fr ∧ (dnX fr (pg23 8) d (tq n (i + 1) i) h i).fr.length = 8 ∧
      (dnX fr (pg23 8) d (tq n (i + 1) i) h i).d < 4096 ∧ wd (dnX fr (pg23 8) d (tq n (i + 1) i) h i).fr 48 = i + 1 ∧ wd (dnX fr (pg23 8) d (tq n (i + 1) i) h i).fr (49 + 2 * (i % n)) = h ∧
      wd (dnX fr (pg23 8) d (tq n (i + 1) i) h i).fr (50 + 2 * (i % n)) = i ∧ wd (dnX fr (pg23 8) d (tq n (i + 1) i) h i).fr 32 = wd fr 32 := by
  have hm := Nat.mod_lt i (show 0 < n by omega)
  have hA : dnA (tq n (i + 1) i) = 4 * (49 + 2 * (i % n)) := by show 192 + 4 + 8 * (i % n) = _; omega
  have o1 : ownB fr.length (pg23 8) (dnA (tq n (i + 1) i)) 4 = true := by rw [hl, hA]; exact own23 _ (by omega)
  have o2 : ownB fr.length (pg23 8) (dnA (tq n (i + 1) i) + 4) 4 = true := by rw [hl, hA, show 4 * (49 + 2 * (i % n)) + 4 = 4 * (50 + 2 * (i % n)) by omega]; exact own23 _ (by omega)
  have o3 : ownB fr.length (pg23 8) (tq n (i + 1) i).r.used 4 = true := by rw [hl]; exact own23 48 (by decide)
  obtain ⟨k1, k2, k3, _⟩ := dnX_ok (pg := pg23 8) (d := d) (s := tq n (i + 1) i) (h := h) (n := i) hF hd (tq_ok hn (by omega) (by omega))
  have hX : dnX fr (pg23 8) d (tq n (i + 1) i) h i = ⟨0, tq n (i + 1) (i + 1), dnF3 fr (pg23 8) (tq n (i + 1) i) h i, dnD3 fr (pg23 8) d (tq n (i + 1) i) h i⟩ := by
    rw [dnX, if_pos (by rfl), if_pos o1, if_pos o2, if_pos o3]
    show DnR.mk 0 (tq n (i + 1) ((i + 1) % 65536)) _ _ = _
    rw [Nat.mod_eq_of_lt (by omega)]
  have e3 : dnF3 fr (pg23 8) (tq n (i + 1) i) h i = wrF (wrF (wrF fr (pg23 8) (4 * (49 + 2 * (i % n))) (bytesL [h])) (pg23 8) (4 * (50 + 2 * (i % n))) (bytesL [i])) (pg23 8) (4 * 48) (bytesL [i + 1]) := by
    show wrF (wrF (wrF fr (pg23 8) (dnA (tq n (i + 1) i)) _) (pg23 8) (dnA (tq n (i + 1) i) + 4) _) (pg23 8) 192 (bytesL [(i + 1) % 65536]) = _
    rw [hA, show 4 * (49 + 2 * (i % n)) + 4 = 4 * (50 + 2 * (i % n)) by omega, show (i + 1) % 65536 = i + 1 by omega]
  obtain ⟨f1, l1⟩ := wrF_ok (pg := pg23 8) (pa := 4 * (49 + 2 * (i % n))) (bs := bytesL [h]) hF
  rw [hl] at l1
  obtain ⟨f2, l2⟩ := wrF_ok (pg := pg23 8) (pa := 4 * (50 + 2 * (i % n))) (bs := bytesL [i]) f1
  rw [l1] at l2
  have hw : ∀ j, j < 128 → wd (dnF3 fr (pg23 8) (tq n (i + 1) i) h i) j = if j = 48 then i + 1 else if j = 50 + 2 * (i % n) then i else if j = 49 + 2 * (i % n) then h else wd fr j := fun j hj => by
    rw [e3, wd_write f2 l2 (by decide) hj (by omega), wd_write f1 l1 (by omega) hj (by omega), wd_write hF hl (by omega) hj (by omega)]
  rw [hX] at k1 k2 k3 ⊢
  dsimp only at k1 k2 k3 ⊢
  refine ⟨rfl, rfl, k1, k2.trans hl, k3, ?_, ?_, ?_, ?_⟩
  · rw [hw _ (by decide), if_pos rfl]
  · rw [hw _ (by omega), if_neg (by omega), if_neg (by omega), if_pos rfl]
  · rw [hw _ (by omega), if_neg (by omega), if_pos rfl]
  · rw [hw _ (by decide), if_neg (by omega), if_neg (by omega), if_neg (by omega)]
theorem shl3 : ∀ k, k < 3 → bShl .i64 2 ((k : Nat) : Int) = ((2 * 2 ^ k : Nat) : Int) := by decide
theorem sz3 {k : Nat} (h : k < 3) : 2 * 2 ^ k = 2 ∨ 2 * 2 ^ k = 4 ∨ 2 * 2 ^ k = 8 := by
  have : ∀ k, k < 3 → 2 * 2 ^ k = 2 ∨ 2 * 2 ^ k = 4 ∨ 2 * 2 ^ k = 8 := by decide
  exact this k h
theorem fitT {n : Nat} (hn : n = 2 ∨ n = 4 ∨ n = 8) : fitB fZ.length (pg23 8) ⟨0, 128, 192, n⟩ = true := by
  rcases hn with rfl | rfl | rfl <;> decide +kernel
theorem okT (n : Nat) : Rg3.ok ⟨0, 128, 192, n⟩ := ⟨(by decide : (0 : Nat) < 4294967296), (by decide : (128 : Nat) < 4294967296), (by decide : (192 : Nat) < 4294967296)⟩
theorem wdZ : wd fZ 32 = 0 := by decide +kernel
theorem QueueTurns_walk (W0 : World) (a : Option Addr) (c : Nat) (heads : List Nat) (hh : SlB W0 a 1 (fun x => [bV x]) heads) (hb : By heads) (hhl : heads.length < 9223372036854775808) (size : Nat) (hsz : size < 256) :
    Spec Try.prog W0 3 [.slice a heads.length c, .int .u8 size] [] (fun v B => v = .bool true ∧ B = []) := by
  have hP := pg23_ok 8
  have hn := sz3 (Nat.mod_lt size (show 0 < 3 by decide))
  have hsh := shl3 (size % 3) (Nat.mod_lt _ (by decide))
  generalize 2 * 2 ^ (size % 3) = n at hn hsh
  refine spec_body Try.func3 Try.ntmps3 rfl rfl ?_
  refine x_seq ?_
  refine x_region ?_
  refine s_val rfl (v_assign rfl) ?_
  refine x_nil ?_
  refine n_then ?_
  refine x_seq ?_
  refine x_region ?_
  refine s_do rfl (d_call Try.call9 rfl (made23_spec W0 _ none 0 [] sla_nil (fun t ht => by simp at ht) (by decide))) ?_
  rintro _ B_ ⟨pv, ps, pm, qv, qs, qm, rfl, hB_⟩
  obtain rfl := hB_.symm
  rw [show (mk23 []).1 = fZ from rfl, show (mk23 []).2 = 0 from rfl]
  refine s_val rfl (v_move rfl) ?_
  refine s_val rfl (v_extract rfl rfl) ?_
  refine s_val rfl (v_extract rfl rfl) ?_
  refine s_val rfl (v_assign rfl) ?_
  refine s_val rfl (v_assign rfl) ?_
  refine x_nil ?_
  refine n_then ?_
  refine x_seq ?_
  refine x_region ?_
  refine s_do rfl (d_call Try.call10 rfl (qNew_spec W0 _)) ?_
  rintro _ B_ ⟨bq, rfl, hB_⟩
  obtain rfl := hB_.symm
  refine s_val rfl (v_assign rfl) ?_
  refine x_nil ?_
  refine n_then ?_
  refine x_seq ?_
  refine x_region ?_
  refine s_val rfl (v_move rfl) ?_
  refine s_val rfl (v_rem rfl rfl (by decide) (tmodN size 3)) ?_
  refine s_val rfl (v_shl rfl rfl (by omega) hsh) ?_
  refine s_val rfl (v_assign rfl) ?_
  refine x_nil ?_
  refine n_then ?_
  refine x_seq ?_
  refine x_seq ?_
  refine x_region ?_
  refine s_val rfl (v_move rfl) ?_
  refine s_val rfl (v_eql_ptr_nil Try.underlying23 rfl rfl) ?_
  refine s_val rfl (v_move rfl) ?_
  refine s_or rfl rfl rfl ?_ ?_
  · intro g4_3
    cases g4_3
  · intro g4_3
    refine s_val rfl (v_move rfl) ?_
    refine s_yes rfl rfl ?_
    refine s_val rfl (v_move rfl) ?_
    refine s_yes rfl rfl ?_
    refine s_val rfl (v_move rfl) ?_
    refine s_yes rfl rfl ?_
    refine s_val rfl (v_build Try.underlying33 Try.zeroValue33 (sized_cons Try.sizeOf31 (sized_cons Try.sizeOf31 (sized_cons Try.sizeOf31 (sized_cons Try.sizeOf3 sized_nil)))) (fil_scal rfl Try.sizeOf31 rfl rfl (Nat.le_of_ble_eq_true rfl) SetL.eq (fil_scal rfl Try.sizeOf31 rfl rfl (Nat.le_of_ble_eq_true rfl) SetL.eq (fil_scal rfl Try.sizeOf31 rfl rfl (Nat.le_of_ble_eq_true rfl) SetL.eq (fil_scal rfl Try.sizeOf3 rfl rfl (Nat.le_of_ble_eq_true rfl) SetL.eq fil_nil))))) ?_
    refine s_yes rfl rfl ?_
    refine s_do rfl (d_call4 Try.call11 rfl (qLay_spec W0 _ bq pv ps pm 0 fZ (pg23 8) hP qs0 ⟨0, 128, 192, n⟩ (okT n) (fitT hn))) ?_
    rintro _ B_ ⟨rfl, hB_⟩
    obtain rfl := hB_.symm
    refine s_yes rfl rfl ?_
    refine s_val rfl (v_neq rfl rfl) ?_
    refine s_val rfl (v_pick_f rfl rfl) ?_
    refine x_nil ?_
    refine n_then ?_
    refine x_if rfl ?_ ?_
    · intro c4
      first | exact absurd rfl c4 | exact absurd c4 (by simp)
    · intro c4
      refine x_skip ?_
      refine n_then ?_
      refine x_seq ?_
      refine x_seq ?_
      refine x_region ?_
      refine s_val rfl (v_assign rfl) ?_
      refine x_nil ?_
      refine n_then ?_
      refine x_block ?_
      refine x_loop (fun X : Nat × List Frm × Nat => X.1 ≤ min heads.length 60 ∧ Frs X.2.1 ∧ X.2.1.length = 8 ∧ X.2.2 < 4096 ∧ wd X.2.1 32 = X.1) (fun X => [(0, .slice a heads.length c), (5, .pointer (some ⟨pv, 0, none⟩)), (7, .pointer (some ⟨bq, 0, none⟩)), (8, .int .i64 n), (9, .int .i64 X.1)]) (fun X => pt bq (qO true (tq n X.1 X.1)) :: vwW pv ps pm X.2.2 X.2.1 (pg23 8) []) (fun X => 60 - X.1) (0, fZ, 0) ?_ ?_ ?_ ?_
      · exact ⟨Nat.zero_le _, fZ_ok, rfl, (by show (0 : Nat) < 4096; decide), wdZ⟩
      · repeat (first | exact sub_nil | refine sub_cons rfl ?_)
      · exact inferInstance
      · intro ⟨i, fr, d⟩ ⟨hi, hF, hl, hd, hw⟩
        dsimp only at hi hF hl hd hw ⊢
        have hm := Nat.mod_lt i (show 0 < n by omega)
        refine x_seq ?_
        refine x_seq ?_
        refine x_region ?_
        refine s_val rfl (v_move rfl) ?_
        refine s_val rfl (v_move rfl) ?_
        refine s_val rfl (v_len_slice Try.underlying22 rfl) ?_
        refine s_val rfl (v_lss rfl rfl) ?_
        refine s_val rfl (v_move rfl) ?_
        refine s_and rfl rfl rfl ?_ ?_
        · intro g7_5
          refine s_val rfl (v_move rfl) ?_
          refine s_yes rfl rfl ?_
          refine s_val rfl (v_lss rfl rfl) ?_
          refine s_val rfl (v_pick_t rfl rfl) ?_
          refine x_nil ?_
          refine n_then ?_
          refine x_if rfl ?_ ?_
          · intro c7
            refine x_skip ?_
            refine n_then ?_
            refine x_seq ?_
            refine x_block ?_
            refine x_seq ?_
            have hi1 : i < heads.length := by omega
            obtain ⟨g, o, rfl, hc⟩ := (sla_base (A := []) hh).at_ hi1
            have hx := hb.get hi1
            generalize heads[i] = hd0 at hc hx
            obtain ⟨h, hhd⟩ : ∃ h, h = hd0 % n := ⟨_, rfl⟩
            have hlt : h < n := by rw [hhd]; exact Nat.mod_lt _ (by omega)
            refine x_region ?_
            refine s_val rfl (v_move rfl) ?_
            refine s_val rfl (v_move rfl) ?_
            refine s_val rfl (v_idx Try.underlying22 Try.sizeOf5 rfl rfl rfl hi1 (by first | exact Nat.zero_add _ | rfl)) ?_
            refine s_val rfl (v_load Try.isAgg5 rfl (Cells.weak hc 0 _ rfl)) ?_
            refine s_val rfl (v_conv Try.underlying5 Try.underlying3 rfl (by first | exact w64 (by omega) | rfl)) ?_
            refine s_val rfl (v_move rfl) ?_
            refine s_val rfl (v_rem rfl rfl (show ((n : Nat) : Int) ≠ 0 by omega) ((tmodN hd0 n).trans (by rw [hhd]) : Int.tmod (hd0 : Int) (n : Int) = ((h : Nat) : Int))) ?_
            refine s_val rfl (v_assign rfl) ?_
            refine x_nil ?_
            refine n_then ?_
            refine x_seq ?_
            refine x_region ?_
            refine s_val rfl (v_move rfl) ?_
            refine s_val rfl (v_move rfl) ?_
            refine s_val rfl (v_move rfl) ?_
            refine s_val rfl (v_rem rfl rfl (show ((n : Nat) : Int) ≠ 0 by omega) (tmodN i n)) ?_
            refine s_val rfl (v_mul rfl rfl (w64 (by omega))) ?_
            refine s_val rfl (v_add rfl rfl (by rw [w64 (by omega)]; omega : IntKind.wrap .i64 (132 + 4 * ((i % n : Nat) : Int)) = ((4 * (33 + i % n) : Nat) : Int))) ?_
            refine s_val rfl (v_conv Try.underlying3 Try.underlying31 rfl (w32u (by omega))) ?_
            refine s_val rfl (v_move rfl) ?_
            refine s_val rfl (v_conv Try.underlying3 Try.underlying31 rfl (w32u (by omega))) ?_
            refine s_do rfl (d_call3 Try.call12 rfl (viSave_spec W0 _ pv ps pm d fr (pg23 8) hP hF hd (4 * (33 + i % n)) (by omega) 4 h (by omega))) ?_
            rintro _ B_ ⟨rfl, hB_⟩
            obtain rfl := hB_.symm
            obtain ⟨hF1, hl1⟩ := vsvF_ok (pg := pg23 8) (pa := 4 * (33 + i % n)) (w := 4) (x := h) hF
            rw [hl] at hl1
            have hw1 : wd (vsvF fr (pg23 8) (4 * (33 + i % n)) 4 h) 32 = i := (wd_save hF hl (by omega) (by decide) (by omega)).trans ((if_neg (by omega)).trans hw)
            have hw2 : wd (vsvF fr (pg23 8) (4 * (33 + i % n)) 4 h) (33 + i % n) = h := (wd_save hF hl (by omega) (by omega) (by omega)).trans (if_pos rfl)
            have hd1 := vsvD_lt (fr := fr) (pg := pg23 8) (pa := 4 * (33 + i % n)) (w := 4) hd
            generalize vsvF fr (pg23 8) (4 * (33 + i % n)) 4 h = f1 at hF1 hl1 hw1 hw2
            generalize vsvD fr (pg23 8) (4 * (33 + i % n)) 4 d = d1 at hd1
            refine x_nil ?_
            refine n_then ?_
            refine x_seq ?_
            refine x_region ?_
            refine s_val rfl (v_move rfl) ?_
            refine s_val rfl (v_move rfl) ?_
            refine s_do rfl (d_call4 Try.call13 rfl (qNext_spec W0 _ bq pv ps pm d1 f1 (pg23 8) hP hF1 (tq n i i) (tq_ok hn (by omega) (by omega)))) ?_
            rintro _ B_ ⟨rfl, hB_⟩
            obtain rfl := hB_.symm
            obtain ⟨s1, s2⟩ := stepT0 (p := i) hF1 hl1 hn (by omega) hw1
            rw [s1, s2]
            refine s_val rfl (v_move rfl) ?_
            refine s_val rfl (v_extract rfl rfl) ?_
            refine s_val rfl (v_extract rfl rfl) ?_
            refine s_val rfl (v_extract rfl rfl) ?_
            refine s_val rfl (v_assign rfl) ?_
            refine s_val rfl (v_assign rfl) ?_
            refine s_val rfl (v_assign rfl) ?_
            refine x_nil ?_
            refine n_then ?_
            refine x_seq ?_
            refine x_region ?_
            refine s_val rfl (v_move rfl) ?_
            refine s_val rfl (v_move rfl) ?_
            refine s_val rfl (v_add rfl rfl (by rw [w64 (by omega)]; omega : IntKind.wrap .i64 ((i : Int) + 1) = ((i + 1 : Nat) : Int))) ?_
            refine s_val rfl (v_conv Try.underlying3 Try.underlying31 rfl (w32u (by omega))) ?_
            refine s_do rfl (d_call3 Try.call12 rfl (viSave_spec W0 _ pv ps pm d1 f1 (pg23 8) hP hF1 hd1 128 (by decide) 4 (i + 1) (by omega))) ?_
            rintro _ B_ ⟨rfl, hB_⟩
            obtain rfl := hB_.symm
            obtain ⟨hF2, hl2⟩ := vsvF_ok (pg := pg23 8) (pa := 128) (w := 4) (x := i + 1) hF1
            rw [hl1] at hl2
            have hw3 : wd (vsvF f1 (pg23 8) 128 4 (i + 1)) 32 = i + 1 := (wd_save (k := 32) hF1 hl1 (by decide) (by decide) (by omega)).trans (if_pos rfl)
            have hw4 : wd (vsvF f1 (pg23 8) 128 4 (i + 1)) (33 + i % n) = h := (wd_save (k := 32) hF1 hl1 (by decide) (by omega) (by omega)).trans ((if_neg (by omega)).trans hw2)
            have hd2 := vsvD_lt (fr := f1) (pg := pg23 8) (pa := 128) (w := 4) hd1
            generalize vsvF f1 (pg23 8) 128 4 (i + 1) = f2 at hF2 hl2 hw3 hw4
            generalize vsvD f1 (pg23 8) 128 4 d1 = d2 at hd2
            refine x_nil ?_
            refine n_then ?_
            refine x_seq ?_
            refine x_region ?_
            refine s_val rfl (v_move rfl) ?_
            refine s_val rfl (v_move rfl) ?_
            refine s_do rfl (d_call4 Try.call13 rfl (qNext_spec W0 _ bq pv ps pm d2 f2 (pg23 8) hP hF2 (tq n i i) (tq_ok hn (by omega) (by omega)))) ?_
            rintro _ B_ ⟨rfl, hB_⟩
            obtain rfl := hB_.symm
            obtain ⟨s3, s4⟩ := stepT1 (p := i) hF2 hl2 hn (by omega) hw3 hw4 hlt
            rw [s3, s4]
            refine s_val rfl (v_move rfl) ?_
            refine s_val rfl (v_extract rfl rfl) ?_
            refine s_val rfl (v_extract rfl rfl) ?_
            refine s_val rfl (v_extract rfl rfl) ?_
            refine s_val rfl (v_assign rfl) ?_
            refine s_val rfl (v_assign rfl) ?_
            refine s_val rfl (v_assign rfl) ?_
            refine x_nil ?_
            refine n_then ?_
            refine x_seq ?_
            refine x_region ?_
            refine s_val rfl (v_move rfl) ?_
            refine s_val rfl (v_move rfl) ?_
            refine s_do rfl (d_call4 Try.call13 rfl (qNext_spec W0 _ bq pv ps pm d2 f2 (pg23 8) hP hF2 (tq n (i + 1) i) (tq_ok hn (by omega) (by omega)))) ?_
            rintro _ B_ ⟨rfl, hB_⟩
            obtain rfl := hB_.symm
            obtain ⟨s5, s6⟩ := stepT0 (p := i) hF2 hl2 hn (show i + 1 < 60000 by omega) hw3
            rw [s5, s6]
            refine s_val rfl (v_move rfl) ?_
            refine s_val rfl (v_extract rfl rfl) ?_
            refine s_val rfl (v_extract rfl rfl) ?_
            refine s_val rfl (v_extract rfl rfl) ?_
            refine s_val rfl (v_assign rfl) ?_
            refine s_val rfl (v_assign rfl) ?_
            refine s_val rfl (v_assign rfl) ?_
            refine x_nil ?_
            refine n_then ?_
            refine x_seq ?_
            refine x_seq ?_
            refine x_region ?_
            refine s_val rfl (v_move rfl) ?_
            refine s_val rfl (v_move rfl) ?_
            refine s_or rfl rfl rfl ?_ ?_
            · intro g15_2
              cases g15_2
            · intro g15_2
              refine s_val rfl (v_move rfl) ?_
              refine s_yes rfl rfl ?_
              refine s_val rfl (v_not rfl) ?_
              refine s_val rfl (v_pick_f rfl rfl) ?_
              refine s_val rfl (v_move rfl) ?_
              refine s_or rfl rfl rfl ?_ ?_
              · intro g15_6
                exact absurd rfl g15_6
              · intro g15_6
                refine s_val rfl (v_move rfl) ?_
                refine s_val rfl (v_pick_f rfl rfl) ?_
                refine s_val rfl (v_move rfl) ?_
                refine s_or rfl rfl rfl ?_ ?_
                · intro g15_9
                  cases g15_9
                · intro g15_9
                  refine s_val rfl (v_move rfl) ?_
                  refine s_yes rfl rfl ?_
                  refine s_val rfl (v_move rfl) ?_
                  refine s_yes rfl rfl ?_
                  refine s_val rfl (v_neq rfl rfl) ?_
                  refine s_val rfl (v_pick_f rfl rfl) ?_
                  refine s_val rfl (v_move rfl) ?_
                  refine s_or rfl rfl rfl ?_ ?_
                  · intro g15_14
                    exact absurd rfl g15_14
                  · intro g15_14
                    refine s_val rfl (v_move rfl) ?_
                    refine s_yes rfl rfl ?_
                    refine s_val rfl (v_neq rfl rfl) ?_
                    refine s_val rfl (v_pick_f rfl rfl) ?_
                    refine s_val rfl (v_move rfl) ?_
                    refine s_or rfl rfl rfl ?_ ?_
                    · intro g15_18
                      exact absurd rfl g15_18
                    · intro g15_18
                      refine s_val rfl (v_move rfl) ?_
                      refine s_yes rfl rfl ?_
                      refine s_val rfl (v_neq rfl rfl) ?_
                      refine s_val rfl (v_pick_f rfl rfl) ?_
                      refine s_val rfl (v_move rfl) ?_
                      refine s_or rfl rfl rfl ?_ ?_
                      · intro g15_22
                        exact absurd rfl g15_22
                      · intro g15_22
                        refine s_val rfl (v_move rfl) ?_
                        refine s_yes rfl rfl ?_
                        refine s_val rfl (v_move rfl) ?_
                        refine s_yes rfl rfl ?_
                        refine s_val rfl (v_move rfl) ?_
                        refine s_yes rfl rfl ?_
                        refine s_val rfl (v_move rfl) ?_
                        refine s_yes rfl rfl ?_
                        refine s_do rfl (d_call4 Try.call14 rfl (qDone_spec W0 _ bq pv ps pm d2 f2 (pg23 8) hP hF2 hd2 (tq n (i + 1) i) (tq_ok hn (by omega) (by omega)) (h : Nat) (i : Nat))) ?_
                        rintro _ B_ ⟨rfl, hB_⟩
                        obtain rfl := hB_.symm
                        rw [u32N_nat (show h < 4294967296 by omega), u32N_nat (show i < 4294967296 by omega)]
                        obtain ⟨k1, k2, k3, k4, k5, k6, k7, k8, k9⟩ := doneT hF2 hl2 hn (show i < 60000 by omega) hd2 hlt
                        rw [k1, k2]
                        rw [hw3] at k9
                        generalize (dnX f2 (pg23 8) d2 (tq n (i + 1) i) h i).fr = f3 at k3 k4 k6 k7 k8 k9
                        generalize (dnX f2 (pg23 8) d2 (tq n (i + 1) i) h i).d = d3 at k5
                        refine s_yes rfl rfl ?_
                        refine s_val rfl (v_neq rfl rfl) ?_
                        refine s_val rfl (v_pick_f rfl rfl) ?_
                        refine x_nil ?_
                        refine n_then ?_
                        refine x_if rfl ?_ ?_
                        · intro c15
                          exact absurd rfl c15
                        · intro c15
                          refine x_skip ?_
                          refine n_then ?_
                          refine x_seq ?_
                          refine x_region ?_
                          refine s_val rfl (v_move rfl) ?_
                          refine s_do rfl (d_call3 Try.call15 rfl (viLoad_spec W0 _ pv ps pm d3 f3 (pg23 8) hP k3 192 (by decide) 4)) ?_
                          rintro _ B_ ⟨rfl, hB_⟩
                          obtain rfl := hB_.symm
                          rw [show vldN f3 (pg23 8) 192 4 = i + 1 from (ld_wd (k := 48) k3 k4 (by decide)).trans k6]
                          refine s_val rfl (v_move rfl) ?_
                          refine s_val rfl (v_extract rfl rfl) ?_
                          refine s_val rfl (v_extract rfl rfl) ?_
                          refine s_val rfl (v_assign rfl) ?_
                          refine s_val rfl (v_assign rfl) ?_
                          refine x_nil ?_
                          refine n_then ?_
                          refine x_seq ?_
                          refine x_region ?_
                          refine s_val rfl (v_move rfl) ?_
                          refine s_val rfl (v_move rfl) ?_
                          refine s_val rfl (v_move rfl) ?_
                          refine s_val rfl (v_rem rfl rfl (show ((n : Nat) : Int) ≠ 0 by omega) (tmodN i n)) ?_
                          refine s_val rfl (v_mul rfl rfl (w64 (by omega))) ?_
                          refine s_val rfl (v_add rfl rfl (by rw [w64 (by omega)]; omega : IntKind.wrap .i64 (196 + 8 * ((i % n : Nat) : Int)) = ((4 * (49 + 2 * (i % n)) : Nat) : Int))) ?_
                          refine s_val rfl (v_conv Try.underlying3 Try.underlying31 rfl (w32u (by omega))) ?_
                          refine s_do rfl (d_call3 Try.call15 rfl (viLoad_spec W0 _ pv ps pm d3 f3 (pg23 8) hP k3 (4 * (49 + 2 * (i % n))) (by omega) 4)) ?_
                          rintro _ B_ ⟨rfl, hB_⟩
                          obtain rfl := hB_.symm
                          rw [show vldN f3 (pg23 8) (4 * (49 + 2 * (i % n))) 4 = h from (ld_wd k3 k4 (by omega)).trans k7]
                          refine s_val rfl (v_move rfl) ?_
                          refine s_val rfl (v_extract rfl rfl) ?_
                          refine s_val rfl (v_extract rfl rfl) ?_
                          refine s_val rfl (v_assign rfl) ?_
                          refine s_val rfl (v_assign rfl) ?_
                          refine x_nil ?_
                          refine n_then ?_
                          refine x_seq ?_
                          refine x_region ?_
                          refine s_val rfl (v_move rfl) ?_
                          refine s_val rfl (v_move rfl) ?_
                          refine s_val rfl (v_move rfl) ?_
                          refine s_val rfl (v_rem rfl rfl (show ((n : Nat) : Int) ≠ 0 by omega) (tmodN i n)) ?_
                          refine s_val rfl (v_mul rfl rfl (w64 (by omega))) ?_
                          refine s_val rfl (v_add rfl rfl (by rw [w64 (by omega)]; omega : IntKind.wrap .i64 (200 + 8 * ((i % n : Nat) : Int)) = ((4 * (50 + 2 * (i % n)) : Nat) : Int))) ?_
                          refine s_val rfl (v_conv Try.underlying3 Try.underlying31 rfl (w32u (by omega))) ?_
                          refine s_do rfl (d_call3 Try.call15 rfl (viLoad_spec W0 _ pv ps pm d3 f3 (pg23 8) hP k3 (4 * (50 + 2 * (i % n))) (by omega) 4)) ?_
                          rintro _ B_ ⟨rfl, hB_⟩
                          obtain rfl := hB_.symm
                          rw [show vldN f3 (pg23 8) (4 * (50 + 2 * (i % n))) 4 = i from (ld_wd k3 k4 (by omega)).trans k8]
                          refine s_val rfl (v_move rfl) ?_
                          refine s_val rfl (v_extract rfl rfl) ?_
                          refine s_val rfl (v_extract rfl rfl) ?_
                          refine s_val rfl (v_assign rfl) ?_
                          refine s_val rfl (v_assign rfl) ?_
                          refine x_nil ?_
                          refine n_then ?_
                          refine x_seq ?_
                          refine x_region ?_
                          refine s_val rfl (v_move rfl) ?_
                          refine s_val rfl (v_move rfl) ?_
                          refine s_val rfl (v_add rfl rfl (by rw [w64 (by omega)]; omega : IntKind.wrap .i64 ((i : Int) + 1) = ((i + 1 : Nat) : Int))) ?_
                          refine s_val rfl (v_conv Try.underlying3 Try.underlying31 rfl (w32u (by omega))) ?_
                          refine s_val rfl (v_neq rfl rfl) ?_
                          refine s_val rfl (v_move rfl) ?_
                          refine s_or rfl rfl rfl ?_ ?_
                          · intro g20_6
                            exact absurd rfl g20_6
                          · intro g20_6
                            refine s_val rfl (v_move rfl) ?_
                            refine s_yes rfl rfl ?_
                            refine s_val rfl (v_move rfl) ?_
                            refine s_yes rfl rfl ?_
                            refine s_val rfl (v_conv Try.underlying3 Try.underlying31 rfl (w32u (by omega))) ?_
                            refine s_yes rfl rfl ?_
                            refine s_val rfl (v_neq rfl rfl) ?_
                            refine s_val rfl (v_pick_f rfl rfl) ?_
                            refine s_val rfl (v_move rfl) ?_
                            refine s_or rfl rfl rfl ?_ ?_
                            · intro g20_12
                              exact absurd rfl g20_12
                            · intro g20_12
                              refine s_val rfl (v_move rfl) ?_
                              refine s_yes rfl rfl ?_
                              refine s_val rfl (v_move rfl) ?_
                              refine s_yes rfl rfl ?_
                              refine s_val rfl (v_conv Try.underlying3 Try.underlying31 rfl (w32u (by omega))) ?_
                              refine s_yes rfl rfl ?_
                              refine s_val rfl (v_neq rfl rfl) ?_
                              refine s_val rfl (v_pick_f rfl rfl) ?_
                              refine x_nil ?_
                              refine n_then ?_
                              refine x_if rfl ?_ ?_
                              · intro c20
                                exact absurd rfl c20
                              · intro c20
                                refine x_skip ?_
                                refine n_block ?_
                                refine n_then ?_
                                refine x_region ?_
                                refine s_val rfl (v_move rfl) ?_
                                refine s_val rfl (v_add rfl rfl (by first | exact w64 (by omega) | rfl)) ?_
                                refine s_val rfl (v_assign rfl) ?_
                                refine x_nil ?_
                                refine n_then ?_
                                refine inv_intro (i + 1, f3, d3) ?_ ?_ ?_ ?_
                                · exact ⟨by omega, k3, k4, k5, k9⟩
                                · omega
                                · repeat (first | exact sub_nil | refine sub_cons rfl ?_)
                                · exact inferInstance
          · intro c7
            refine x_exit ?_
            refine e_then ?_
            refine e_then ?_
            refine e_block ?_
            refine n_then ?_
            refine x_seq ?_
            obtain rfl : i = min heads.length 60 := by omega
            refine x_region ?_
            refine s_val rfl (v_move rfl) ?_
            refine s_do rfl (d_call1 Try.call16 rfl (qState_spec W0 _ bq (tq n (min heads.length 60) (min heads.length 60)))) ?_
            rintro _ B_ ⟨rfl, hB_⟩
            obtain rfl := hB_.symm
            refine s_do rfl (d_allocA Try.zeroValue41) ?_
            rintro _ _ ⟨bs, rfl, rfl⟩
            refine s_do0 (d_storeAll Try.sizeOf41 rfl rfl rfl rfl rfl) ?_
            rintro _ _ rfl
            refine x_nil ?_
            refine n_then ?_
            refine x_seq ?_
            refine x_region ?_
            refine s_val rfl (v_fieldAddr rfl Try.underlying41 rfl Try.sizeOf4 rfl (by first | exact Nat.zero_add _ | rfl)) ?_
            refine s_val rfl (v_load Try.isAgg4 rfl (cell_own rfl)) ?_
            refine s_val rfl (v_move rfl) ?_
            refine s_and rfl rfl rfl ?_ ?_
            · intro g23_3
              refine s_val rfl (v_fieldAddr rfl Try.underlying41 rfl Try.sizeOf3 rfl (by first | exact Nat.zero_add _ | rfl)) ?_
              refine s_yes rfl rfl ?_
              refine s_val rfl (v_load Try.isAgg3 rfl (cell_own rfl)) ?_
              refine s_yes rfl rfl ?_
              refine s_val rfl (v_eql rfl rfl) ?_
              refine s_val rfl (v_pick_t rfl rfl) ?_
              refine s_val rfl (v_move rfl) ?_
              refine s_and rfl rfl rfl ?_ ?_
              · intro g23_8
                refine s_val rfl (v_fieldAddr rfl Try.underlying41 rfl Try.sizeOf3 rfl (by first | exact Nat.zero_add _ | rfl)) ?_
                refine s_yes rfl rfl ?_
                refine s_val rfl (v_load Try.isAgg3 rfl (cell_own rfl)) ?_
                refine s_yes rfl rfl ?_
                refine s_val rfl (v_move rfl) ?_
                refine s_yes rfl rfl ?_
                refine s_val rfl (v_len_slice Try.underlying22 rfl) ?_
                refine s_yes rfl rfl ?_
                refine s_val rfl (v_min rfl rfl (by split <;> omega : (if (60 : Int) < (heads.length : Int) then (60 : Int) else (heads.length : Int)) = ((min heads.length 60 : Nat) : Int))) ?_
                refine s_yes rfl rfl ?_
                refine s_val rfl (v_eql rfl rfl) ?_
                refine s_val rfl (v_pick_t rfl rfl) ?_
                refine s_val rfl (v_move rfl) ?_
                refine s_and rfl rfl rfl ?_ ?_
                · intro g23_16
                  refine s_val rfl (v_fieldAddr rfl Try.underlying41 rfl Try.sizeOf3 rfl (by first | exact Nat.zero_add _ | rfl)) ?_
                  refine s_yes rfl rfl ?_
                  refine s_val rfl (v_load Try.isAgg3 rfl (cell_own rfl)) ?_
                  refine s_yes rfl rfl ?_
                  refine s_val rfl (v_fieldAddr rfl Try.underlying41 rfl Try.sizeOf3 rfl (by first | exact Nat.zero_add _ | rfl)) ?_
                  refine s_yes rfl rfl ?_
                  refine s_val rfl (v_load Try.isAgg3 rfl (cell_own rfl)) ?_
                  refine s_yes rfl rfl ?_
                  refine s_val rfl (v_eql rfl rfl) ?_
                  refine s_val rfl (v_pick_t rfl rfl) ?_
                  refine s_val rfl (v_move rfl) ?_
                  refine s_and rfl rfl rfl ?_ ?_
                  · intro g23_23
                    refine s_do rfl (d_call Try.call17 rfl (awake23_spec W0 _)) ?_
                    rintro _ B_ ⟨rfl, hB_⟩
                    obtain rfl := hB_.symm
                    refine s_val rfl (v_pick_t rfl rfl) ?_
                    refine s_val rfl (v_assign rfl) ?_
                    refine x_nil ?_
                    refine n_then ?_
                    refine x_ret ?_
                    refine x_done (.inl rfl) (.cons (r_tmp rfl) .nil) ?_
                    exact ⟨_, ⟨rfl, rfl⟩, inferInstance⟩
                  · intro g23_23
                    exact absurd rfl g23_23
                · intro g23_16
                  exact absurd rfl g23_16
              · intro g23_8
                exact absurd rfl g23_8
            · intro g23_3
              exact absurd rfl g23_3
        · intro g7_5
          refine s_no rfl rfl rfl rfl ?_
          refine s_val rfl (v_pick_f rfl rfl) ?_
          refine x_nil ?_
          refine n_then ?_
          refine x_iff rfl ?_
          refine x_exit ?_
          refine e_then ?_
          refine e_then ?_
          refine e_block ?_
          refine n_then ?_
          refine x_seq ?_
          obtain rfl : i = min heads.length 60 := by omega
          refine x_region ?_
          refine s_val rfl (v_move rfl) ?_
          refine s_do rfl (d_call1 Try.call16 rfl (qState_spec W0 _ bq (tq n (min heads.length 60) (min heads.length 60)))) ?_
          rintro _ B_ ⟨rfl, hB_⟩
          obtain rfl := hB_.symm
          refine s_do rfl (d_allocA Try.zeroValue41) ?_
          rintro _ _ ⟨bs, rfl, rfl⟩
          refine s_do0 (d_storeAll Try.sizeOf41 rfl rfl rfl rfl rfl) ?_
          rintro _ _ rfl
          refine x_nil ?_
          refine n_then ?_
          refine x_seq ?_
          refine x_region ?_
          refine s_val rfl (v_fieldAddr rfl Try.underlying41 rfl Try.sizeOf4 rfl (by first | exact Nat.zero_add _ | rfl)) ?_
          refine s_val rfl (v_load Try.isAgg4 rfl (cell_own rfl)) ?_
          refine s_val rfl (v_move rfl) ?_
          refine s_and rfl rfl rfl ?_ ?_
          · intro g23_3
            refine s_val rfl (v_fieldAddr rfl Try.underlying41 rfl Try.sizeOf3 rfl (by first | exact Nat.zero_add _ | rfl)) ?_
            refine s_yes rfl rfl ?_
            refine s_val rfl (v_load Try.isAgg3 rfl (cell_own rfl)) ?_
            refine s_yes rfl rfl ?_
            refine s_val rfl (v_eql rfl rfl) ?_
            refine s_val rfl (v_pick_t rfl rfl) ?_
            refine s_val rfl (v_move rfl) ?_
            refine s_and rfl rfl rfl ?_ ?_
            · intro g23_8
              refine s_val rfl (v_fieldAddr rfl Try.underlying41 rfl Try.sizeOf3 rfl (by first | exact Nat.zero_add _ | rfl)) ?_
              refine s_yes rfl rfl ?_
              refine s_val rfl (v_load Try.isAgg3 rfl (cell_own rfl)) ?_
              refine s_yes rfl rfl ?_
              refine s_val rfl (v_move rfl) ?_
              refine s_yes rfl rfl ?_
              refine s_val rfl (v_len_slice Try.underlying22 rfl) ?_
              refine s_yes rfl rfl ?_
              refine s_val rfl (v_min rfl rfl (by split <;> omega : (if (60 : Int) < (heads.length : Int) then (60 : Int) else (heads.length : Int)) = ((min heads.length 60 : Nat) : Int))) ?_
              refine s_yes rfl rfl ?_
              refine s_val rfl (v_eql rfl rfl) ?_
              refine s_val rfl (v_pick_t rfl rfl) ?_
              refine s_val rfl (v_move rfl) ?_
              refine s_and rfl rfl rfl ?_ ?_
              · intro g23_16
                refine s_val rfl (v_fieldAddr rfl Try.underlying41 rfl Try.sizeOf3 rfl (by first | exact Nat.zero_add _ | rfl)) ?_
                refine s_yes rfl rfl ?_
                refine s_val rfl (v_load Try.isAgg3 rfl (cell_own rfl)) ?_
                refine s_yes rfl rfl ?_
                refine s_val rfl (v_fieldAddr rfl Try.underlying41 rfl Try.sizeOf3 rfl (by first | exact Nat.zero_add _ | rfl)) ?_
                refine s_yes rfl rfl ?_
                refine s_val rfl (v_load Try.isAgg3 rfl (cell_own rfl)) ?_
                refine s_yes rfl rfl ?_
                refine s_val rfl (v_eql rfl rfl) ?_
                refine s_val rfl (v_pick_t rfl rfl) ?_
                refine s_val rfl (v_move rfl) ?_
                refine s_and rfl rfl rfl ?_ ?_
                · intro g23_23
                  refine s_do rfl (d_call Try.call17 rfl (awake23_spec W0 _)) ?_
                  rintro _ B_ ⟨rfl, hB_⟩
                  obtain rfl := hB_.symm
                  refine s_val rfl (v_pick_t rfl rfl) ?_
                  refine s_val rfl (v_assign rfl) ?_
                  refine x_nil ?_
                  refine n_then ?_
                  refine x_ret ?_
                  refine x_done (.inl rfl) (.cons (r_tmp rfl) .nil) ?_
                  exact ⟨_, ⟨rfl, rfl⟩, inferInstance⟩
                · intro g23_23
                  exact absurd rfl g23_23
              · intro g23_16
                exact absurd rfl g23_16
            · intro g23_8
              exact absurd rfl g23_8
          · intro g23_3
            exact absurd rfl g23_3
end Go.Proofs.Ytechkfopkpkigaa
