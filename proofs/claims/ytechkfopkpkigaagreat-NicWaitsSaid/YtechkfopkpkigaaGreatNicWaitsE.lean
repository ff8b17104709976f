/-
  Part 5 of the proof of NicWaits: rules, and walks of functions. Conditions: none.
-/
import Derived.Test.YtechkfopkpkigaaGreatNicWaitsD
namespace Go.Proofs.YtechkfopkpkigaaGreat
open Go.RowKit
set_option linter.unusedSimpArgs false
set_option linter.unusedVariables false
set_option maxRecDepth 20000
@[reducible] def pw (l : List ByteArray) : List Prt := [⟨0, 0, l⟩]
theorem pw_in (l : List ByteArray) : isIn (pw l) 0 = true := by simp [isIn, inR, pAt]
theorem pw_wt (l : List ByteArray) : wtP (pw l) 0 = l.length := by rw [wtP, if_pos (pw_in l)]; rfl
theorem pw_tkB (l : List ByteArray) : tkB (pw l) 0 = decide (l ≠ []) := by rw [tkB, pw_in]; rfl
theorem pw_tkV (s : ByteArray) (l : List ByteArray) : tkV (pw (s :: l)) 0 = s := by rw [tkV, pw_tkB, if_pos (by simp)]; rfl
theorem pw_tkP (s : ByteArray) (l : List ByteArray) : tkP (pw (s :: l)) 0 = pw l := by rw [tkP, pw_tkB, if_pos (by simp)]; rfl
theorem pw_ok {l : List ByteArray} (h4 : l.length ≤ 4) (hs : ∀ s ∈ l, s.size ≤ 32) : PrS (pw l) := ⟨⟨by show 1 ≤ 8; decide, fun x hx => by
  simp at hx; subst hx; show l.length ≤ mostP _; rw [mostP, if_neg (by show ¬ (0 : Int) = -1; decide)]; exact h4⟩, fun x hx s hs' => by
  simp at hx; subst hx; exact hs s hs'⟩
theorem pw_full (l : List ByteArray) : fullP ⟨0, 0, l⟩ = decide (4 ≤ l.length) := by rw [fullP, mostP, if_neg (by show ¬ (0 : Int) = -1; decide)]
theorem pw_arE (l : List ByteArray) (s : ByteArray) : arE (pw l) 0 s = if 32 < s.size then 10 else if 4 ≤ l.length then 2 else 0 := by
  rw [arE, if_pos (pw_in l)]
  show (if 32 < s.size then (10 : Int) else if fullP ⟨0, 0, l⟩ = true then 2 else 0) = _
  rw [pw_full]
  by_cases h : 4 ≤ l.length <;> simp [h]
theorem pw_arP (l : List ByteArray) (s : ByteArray) : arP (pw l) 0 s = pw (if arE (pw l) 0 s = 0 then l ++ [s] else l) := by
  rw [arP]
  by_cases h : arE (pw l) 0 s = 0
  · rw [if_pos h, if_pos h]
    have h4 : ¬ 4 ≤ l.length := by
      rw [pw_arE] at h
      by_cases q : 32 < s.size
      · rw [if_pos q] at h; simp at h
      · rw [if_neg q] at h
        by_cases q2 : 4 ≤ l.length
        · rw [if_pos q2] at h; simp at h
        · exact q2
    show [putPr ⟨0, 0, l⟩ s] = _
    rw [putPr, pw_full, decide_eq_false h4]; rfl
  · rw [if_neg h, if_neg h]
theorem sc_one {n d : Nat} {fr : List Frm} {bs : List Nat} (hl : fr.length = 8) (hn : n ≤ 64) (hb : bs.length ≤ n) : (scK fr (pg23 8) d [dW n 2] 0 bs 1).2.1 = bs.length ∧ (scK fr (pg23 8) d [dW n 2] 0 bs 1).2.2.1 = wrF fr (pg23 8) 320 bs := by
  have o2 : ownB fr.length (pg23 8) 320 (n : Int) = true := by rw [hl]; exact own_any (by omega)
  have h1 : wrB (dW n 2) = true := by
    rw [wrB, decide_eq_true_iff]; show (2 : Nat) / 2 % 2 = 1; rfl
  have hs : scK fr (pg23 8) d [dW n 2] 0 bs 1 = scStep (pg23 8) bs (dW n 2) (0, 0, fr, d) := rfl
  rw [hs, scStep, if_pos ⟨h1, o2⟩]
  have e : min (n - min 0 n) (bs.length - 0) = bs.length := by omega
  constructor
  · show 0 + min (n - min 0 n) (bs.length - 0) = _; omega
  · show wrF fr (pg23 8) (320 + min 0 n) ((bs.drop 0).take (min (n - min 0 n) (bs.length - 0))) = _
    rw [e, List.drop_zero, List.take_length, show 320 + min 0 n = 320 by omega]
theorem hD32 : dsOf (putD (dW 32 2)) = dW 32 2 := by rfl
theorem rd_320 {fr : List Frm} (hl : fr.length = 8) {bs : List Nat} (h : bs.length ≤ 64) (hr : ∀ i, i < bs.length → rdv fr (pg23 8) (320 + i) = bs.getD i 0) : rdO fr (pg23 8) 320 (bs.length : Int) = bs := by
  rw [rdO, hl, if_pos (own_any (by omega))]
  apply List.ext_getElem
  · rw [rdL_len]; simp
  · intro i h1 h2
    simp only [rdL, List.getElem_map, List.getElem_range]
    rw [hr i h2, List.getD_eq_getElem?_getD, List.getElem?_eq_getElem h2]; rfl
theorem rx_step {fr : List Frm} {d i p c n b j : Nat} {w : Int} {s : ByteArray} {l : List ByteArray} (h : WMem (dW 32 2) fr p) (hd : d < 4096) (hp : p = i + j) (hj : 1 ≤ j ∧ j ≤ 4) (hi : i < 60000) (hs : s.size ≤ 32) :
    ∃ fr' d', svSt false (pg23 8) 0 ⟨fr, d, tq 4 i i, pw (s :: l), c, n, b, w⟩ = (true, ⟨fr', d', tq 4 (i + 1) (i + 1), pw l, c + 1, n + 1, b + s.size, 0⟩) ∧ WMem (dW 32 2) fr' p ∧ d' < 4096 ∧ rdO fr' (pg23 8) 320 (s.size : Int) = bL s := by
  obtain ⟨t1, t2⟩ := tk_W (by decide) (.inr rfl) hD32 h hp hj hi i
  have hbl := bL_len s
  obtain ⟨s1, s2⟩ := sc_one (d := d) (bs := bL s) h.len (show 32 ≤ 64 by decide) (by omega)
  have hdo : doR false (pg23 8) 0 (pw (s :: l)) fr d [dW 32 2] = ⟨s.size, s.size, wrF fr (pg23 8) 320 (bL s), (scK fr (pg23 8) d [dW 32 2] 0 (bL s) 1).2.2.2, pw l⟩ := by
    rw [doR, if_neg (by decide), pw_tkV, pw_tkP, show [dW 32 2].length = 1 from rfl, s1, s2, hbl]
  have hdk : (scK fr (pg23 8) d [dW 32 2] 0 (bL s) 1).2.2.2 < 4096 := (scK_ok (pg := pg23 8) (l := [dW 32 2]) (from_ := 0) (bs := bL s) h.frs hd 1).d
  obtain ⟨hwF, hwl⟩ := wrF_ok (pg := pg23 8) (pa := 320) (bs := bL s) h.frs
  rw [h.len] at hwl
  obtain ⟨fr', d', e1, e2, e3, e4, e5, e6, _⟩ := doneV (fr := wrF fr (pg23 8) 320 (bL s)) hwF hwl (i := i) (h := u32N ((0 : Nat) : Int)) (t := u32N ((s.size : Nat) : Int)) hi hdk
  have hm : moB false (pw (s :: l)) 0 = true := by rw [moB, pw_wt]; simp
  have hst := svSt_mo (pg := pg23 8) (x := ⟨fr, d, tq 4 i i, pw (s :: l), c, n, b, w⟩) hm
  dsimp only [svY, svZ] at hst
  rw [t1, t2, if_pos rfl] at hst
  rw [hdo] at hst
  dsimp only at hst
  rw [e1] at hst
  refine ⟨fr', d', hst, h.keep e2 e3 fun a ha => ?_, e4, ?_⟩
  · rw [e5 a ha, rdv_wrF h.frs h.len (bL_by s) (by rw [hbl]; omega) (by omega), if_neg (by omega)]
  · rw [← hbl]
    refine rd_320 e3 (by rw [hbl]; omega) fun k hk => ?_
    rw [hbl] at hk
    rw [e6 _ (by omega) (by omega), rdv_wrF h.frs h.len (bL_by s) (by rw [hbl]; omega) (by omega), if_pos (by rw [hbl]; omega), show 320 + k - 320 = k by omega]
theorem rx_stop {fr : List Frm} {d i c n b : Nat} {l : List ByteArray} (h : WMem (dW 32 2) fr i) (hi : i < 60000) :
    svSt false (pg23 8) 0 ⟨fr, d, tq 4 i i, pw l, c, n, b, 0⟩ = (false, ⟨fr, d, tq 4 i i, pw l, c, n, b, 0⟩) := by
  obtain ⟨t1, t2⟩ := tk_W0 h hi i
  by_cases hm : moB false (pw l) 0 = true
  · have hst := svSt_mo (pg := pg23 8) (x := ⟨fr, d, tq 4 i i, pw l, c, n, b, 0⟩) hm
    dsimp only [svY, svZ] at hst
    rw [t1, t2, if_neg (by decide)] at hst
    exact hst
  · rw [svSt, if_neg hm]
theorem rx_go : ∀ (k : Nat) {fr : List Frm} {d i c n b f : Nat} {l : List ByteArray}, k < f → WMem (dW 32 2) fr (i + k) → d < 4096 → i + k < 60000 → k ≤ 4 → k ≤ l.length → (∀ s ∈ l, s.size ≤ 32) →
    ∃ fr' d' n' b', svGo false (pg23 8) 0 f ⟨fr, d, tq 4 i i, pw l, c, n, b, 0⟩ = ⟨fr', d', tq 4 (i + k) (i + k), pw (l.drop k), c + k, n', b', 0⟩ ∧ WMem (dW 32 2) fr' (i + k) ∧ d' < 4096 ∧
      (k = 0 → fr' = fr ∧ d' = d ∧ n' = n ∧ b' = b) ∧ (0 < k → rdO fr' (pg23 8) 320 ((l.getD (k - 1) ByteArray.empty).size : Int) = bL (l.getD (k - 1) ByteArray.empty))
  | 0, fr, d, i, c, n, b, f, l, hf, h, hd, hi, h4, hl, hs => by
    rw [Nat.add_zero] at h hi ⊢
    have hst := rx_stop (d := d) (c := c) (n := n) (b := b) (l := l) h (by omega)
    refine ⟨fr, d, n, b, ?_, h, hd, fun _ => ⟨rfl, rfl, rfl, rfl⟩, fun q => absurd q (by omega)⟩
    rw [svGo_stop hf (by rw [hst]), hst]; rfl
  | k + 1, fr, d, i, c, n, b, f, l, hf, h, hd, hi, h4, hl, hs => by
    obtain ⟨s, l', rfl⟩ : ∃ s l', l = s :: l' := by
      cases l with
      | nil => simp at hl
      | cons s l' => exact ⟨s, l', rfl⟩
    have hs1 := hs s (by simp)
    obtain ⟨f1, d1, e1, e2, e3, e4⟩ := rx_step (c := c) (n := n) (b := b) (w := 0) (l := l') h hd rfl ⟨by omega, h4⟩ (by omega) hs1
    rw [show i + (k + 1) = i + 1 + k by omega] at e2 ⊢
    obtain ⟨f2, d2, n2, b2, g1, g2, g3, g4, g5⟩ := rx_go k (f := f - 1) (c := c + 1) (n := n + 1) (b := b + s.size) (l := l') (by omega) e2 e3 (by omega) (by omega) (by simpa using hl) (fun t ht => hs t (by simp [ht]))
    refine ⟨f2, d2, n2, b2, ?_, g2, g3, fun q => absurd q (by omega), fun _ => ?_⟩
    · rw [svGo_go (by omega) (by rw [e1]), e1, g1, List.drop_succ_cons, show c + 1 + k = c + (k + 1) by omega]
    · rcases Nat.eq_zero_or_pos k with q | q
      · subst q
        rw [(g4 rfl).1]
        exact e4
      · have := g5 q
        rw [show (s :: l').getD (k + 1 - 1) ByteArray.empty = l'.getD (k - 1) ByteArray.empty by rw [show k + 1 - 1 = (k - 1) + 1 by omega]; rfl]
        exact this
def gW : Gst := ⟨none, 0, [dW 32 2], none, 0, [], none, 0, [], none, 0, [], 0⟩
theorem mem_W : WMem (dW 32 2) (mk27 gW).1 0 := by
  obtain ⟨h1, h2, h3⟩ := mk27_ok gW
  exact ⟨h1, h2, by decide +kernel, by decide +kernel, by decide +kernel⟩
end Go.Proofs.YtechkfopkpkigaaGreat
namespace Go.Proofs.YtechkfopkpkigaaGreat
open Go.RowKit
set_option linter.unusedSimpArgs false
set_option linter.unusedVariables false
set_option maxRecDepth 20000
theorem sla_tailG {α : Type} {S : World → Prop} {a : Option Addr} {sz : Nat} {f : α → List Value} {xs : List α} {c i : Nat} (h : SlA S a sz f xs) (hc : xs.length ≤ c) (hi : i ≤ xs.length) : SlA S (sliA a c i sz) sz f (xs.drop i) := by
  have := h.sub (c := c) (i := i) (k := xs.length - i) (by omega) hc
  rwa [List.take_of_length_le (by rw [List.length_drop]; omega)] at this
theorem pw_ar0 {l : List ByteArray} {s : ByteArray} (h : arE (pw l) 0 s = 0) : s.size ≤ 32 ∧ l.length < 4 := by
  rw [pw_arE] at h
  by_cases q : 32 < s.size
  · rw [if_pos q] at h; simp at h
  · rw [if_neg q] at h
    by_cases q2 : 4 ≤ l.length
    · rw [if_pos q2] at h; simp at h
    · omega
def Lies (a0 : Option Addr) (want : List ByteArray) (q : Nat) (a : Option Addr) : Prop := ∀ S, SlA S a0 1 (fun s => [sV s]) want → SlA S a 1 (fun s => [sV s]) (want.drop q)
theorem NicWaits_walk (W0 : World) (ap au : Option Addr) (cp cu : Nat) (pk : List ByteArray) (puts : List Nat) (hpk : SlB W0 ap 1 (fun s => [sV s]) pk) (hpl : pk.length < 9223372036854775808) (hps : ∀ s ∈ pk, s.size < 9223372036854775808)
    (hpu : SlB W0 au 1 (fun x => [bV x]) puts) (hul : puts.length < 9223372036854775808) (hub : By puts) :
    Spec Tryz.prog W0 6 [.slice ap pk.length cp, .slice au puts.length cu] [] (fun v B => v = .bool true ∧ B = []) := by
  have hP := pg23_ok 8
  refine spec_body Tryz.func6 Tryz.ntmps6 rfl rfl ?_
  refine x_seq ?_
  refine x_region ?_
  refine s_val rfl (v_assign rfl) ?_
  refine x_nil ?_
  refine n_then ?_
  refine x_seq ?_
  refine x_region ?_
  refine s_val rfl (v_build Tryz.underlying81 Tryz.zeroValue81 (sized_cons Tryz.sizeOf3 (sized_cons Tryz.sizeOf3 sized_nil)) (fil_scal rfl Tryz.sizeOf3 rfl rfl (Nat.le_of_ble_eq_true rfl) SetL.eq fil_nil)) ?_
  refine s_do rfl (d_sliceAgg Tryz.underlying24 Tryz.sizeOf81 Tryz.zeroValue81 rfl (elsK_cons rfl rfl elsK_nil) rfl (by decide) (by decide) (by decide)) ?_
  rintro _ _ ⟨bl, rfl, rfl⟩
  refine s_do rfl (d_call Tryz.call39 rfl (prNew_spec W0 _ [(0, 0)] (some ⟨bl, 0, none⟩) 1 1 rfl (by decide) (sla_cells (.inr ⟨bl, rfl⟩) (cells_all (b := bl)) (fun _ => rfl) rfl (by decide)) (by decide))) ?_
  rintro _ B_ ⟨p, rfl, hB_⟩
  obtain rfl := hB_.symm
  rw [show newP [(0, 0)] = pw [] from rfl]
  refine s_val rfl (v_move rfl) ?_
  refine s_val rfl (v_extract rfl rfl) ?_
  refine s_val rfl (v_extract rfl rfl) ?_
  refine s_val rfl (v_assign rfl) ?_
  refine s_val rfl (v_assign rfl) ?_
  refine x_nil ?_
  refine n_then ?_
  refine x_seq ?_
  refine x_region ?_
  refine s_val rfl (v_build Tryz.underlying99 Tryz.zeroValue99 (sized_cons Tryz.sizeOf53 (sized_cons Tryz.sizeOf53 (sized_cons Tryz.sizeOf53 (sized_cons Tryz.sizeOf53 sized_nil)))) (fil_scal rfl Tryz.sizeOf53 rfl rfl (Nat.le_of_ble_eq_true rfl) SetL.eq (fil_scal rfl Tryz.sizeOf53 rfl rfl (Nat.le_of_ble_eq_true rfl) SetL.eq (fil_scal rfl Tryz.sizeOf53 rfl rfl (Nat.le_of_ble_eq_true rfl) SetL.eq fil_nil)))) ?_
  refine s_do rfl (d_sliceAgg Tryz.underlying43 Tryz.sizeOf99 Tryz.zeroValue99 rfl (elsK_cons rfl rfl elsK_nil) rfl (by decide) (by decide) (by decide)) ?_
  rintro _ _ ⟨b1, rfl, rfl⟩
  refine s_val rfl (v_build Tryz.underlying87 Tryz.zeroValue87 (sized_cons Tryz.sizeOf43 (sized_cons Tryz.sizeOf76 (sized_cons Tryz.sizeOf84 (sized_cons Tryz.sizeOf85 (sized_cons Tryz.sizeOf53 sized_nil))))) (fil_scal rfl Tryz.sizeOf43 rfl rfl (Nat.le_of_ble_eq_true rfl) SetL.eq fil_nil)) ?_
  refine s_do rfl (d_call Tryz.call40 rfl (made27_spec W0 _ ⟨some ⟨b1, 0, none⟩, 1, [dW 32 2], none, 0, [], none, 0, [], none, 0, [], 0⟩ ⟨sla_cells (.inr ⟨b1, rfl⟩) (cells_all (b := b1)) (fun _ => rfl) rfl (by decide), fun x hx => by simp at hx; subst hx; exact ⟨by show (320 : Nat) < _; decide, by show (32 : Nat) < _; decide, by show (2 : Nat) < _; decide, by show (0 : Nat) < _; decide⟩, sla_nil, fun x hx => by simp at hx, sla_nil, fun x hx => by simp at hx, sla_nil, fun x hx => by simp at hx, by show (0 : Nat) < _; decide, ⟨by show (1 : Nat) < _; decide, by show (0 : Nat) < _; decide, by show (0 : Nat) < _; decide, by show (0 : Nat) < _; decide⟩⟩ fit27)) ?_
  rintro _ B_ ⟨pv, ps, pm, qv, qs, qm, bq, br, rfl, hB_⟩
  obtain rfl := hB_.symm
  rw [show mk27 ⟨some ⟨b1, 0, none⟩, 1, [dW 32 2], none, 0, [], none, 0, [], none, 0, [], 0⟩ = mk27 gW from mk27_cong rfl rfl rfl rfl rfl]
  have hM := mem_W
  have hMd := (mk27_ok gW).2.2
  generalize (mk27 gW).1 = fr0 at hM ⊢
  generalize (mk27 gW).2 = d0 at hMd ⊢
  refine s_val rfl (v_move rfl) ?_
  refine s_val rfl (v_extract rfl rfl) ?_
  refine s_val rfl (v_extract rfl rfl) ?_
  refine s_val rfl (v_extract rfl rfl) ?_
  refine s_val rfl (v_extract rfl rfl) ?_
  refine s_val rfl (v_assign rfl) ?_
  refine s_val rfl (v_assign rfl) ?_
  refine s_val rfl (v_assign rfl) ?_
  refine s_val rfl (v_assign rfl) ?_
  refine x_nil ?_
  refine n_then ?_
  refine x_seq ?_
  refine x_seq ?_
  refine x_region ?_
  refine s_val rfl (v_move rfl) ?_
  refine s_val rfl (v_eql_ptr_nil Tryz.underlying77 rfl rfl) ?_
  refine s_val rfl (v_move rfl) ?_
  refine s_or rfl rfl rfl ?_ ?_
  · intro g3_3
    first | cases g3_3 | exact absurd rfl g3_3
  · intro g3_3
    refine s_val rfl (v_move rfl) ?_
    refine s_yes rfl rfl ?_
    refine s_val rfl (v_neq rfl rfl) ?_
    refine s_val rfl (v_pick_f rfl rfl) ?_
    refine s_val rfl (v_move rfl) ?_
    refine s_or rfl rfl rfl ?_ ?_
    · intro g3_7
      first | cases g3_7 | exact absurd rfl g3_7
    · intro g3_7
      refine s_val rfl (v_move rfl) ?_
      refine s_yes rfl rfl ?_
      refine s_val rfl (v_eql_ptr_nil Tryz.underlying45 rfl rfl) ?_
      refine s_val rfl (v_pick_f rfl rfl) ?_
      refine x_nil ?_
      refine n_then ?_
      refine x_if rfl ?_ ?_
      · intro c3
        first | cases c3 | exact absurd rfl c3
      · intro c3
        refine x_skip ?_
        refine n_then ?_
        refine x_seq ?_
        refine x_region ?_
        refine s_val rfl (v_assign rfl) ?_
        refine x_nil ?_
        refine n_then ?_
        refine x_cut (fun X : List ByteArray × Option Addr × Nat => X.1.length ≤ 4 ∧ ∀ s ∈ X.1, s.size ≤ 32) (fun X => [(1, .slice au puts.length cu), (5, .pointer (some ⟨p, 0, none⟩)), (7, .pointer (some ⟨pv, 0, none⟩)), (8, .pointer (some ⟨bq, 0, none⟩)), (11, .slice X.2.1 X.1.length X.2.2)]) (fun X => osl 9 1 (.slice X.2.1 X.1.length X.2.2) (strs X.1) :: portsH p (pw X.1) :: pt bq (qO true (tq 4 0 0)) :: pt pv (viO ps pm d0) :: stoH ps fr0 :: pt pm (gmO (pg23 8)) :: []) ?_ ?_
        · skip
          refine x_seq ?_
          refine x_region ?_
          refine s_val rfl (v_assign rfl) ?_
          refine x_nil ?_
          refine n_then ?_
          refine x_block ?_
          refine x_loop (fun X : Nat × List ByteArray × Option Addr × Nat => X.1 ≤ pk.length ∧ X.2.1.length ≤ 4 ∧ ∀ s ∈ X.2.1, s.size ≤ 32) (fun X => [(0, .slice ap pk.length cp), (1, .slice au puts.length cu), (5, .pointer (some ⟨p, 0, none⟩)), (7, .pointer (some ⟨pv, 0, none⟩)), (8, .pointer (some ⟨bq, 0, none⟩)), (11, .slice X.2.2.1 X.2.1.length X.2.2.2), (12, .int .i64 X.1)]) (fun X => osl 9 1 (.slice X.2.2.1 X.2.1.length X.2.2.2) (strs X.2.1) :: portsH p (pw X.2.1) :: pt bq (qO true (tq 4 0 0)) :: pt pv (viO ps pm d0) :: stoH ps fr0 :: pt pm (gmO (pg23 8)) :: []) (fun X => 9 - X.1) (0, [], none, 0) ?_ ?_ ?_ ?_
          · exact ⟨Nat.zero_le _, by show 0 ≤ 4; omega, fun s hs => by simp at hs⟩
          · repeat (first | exact sub_nil | refine sub_cons rfl ?_)
          · exact ent_osl_nil
          · intro ⟨i, want, a0, c0⟩ ⟨hi, hw4, hws⟩
            dsimp only at hi hw4 hws ⊢
            have hpo := pw_ok hw4 hws
            refine x_seq ?_
            refine x_seq ?_
            refine x_region ?_
            refine s_val rfl (v_move rfl) ?_
            refine s_val rfl (v_move rfl) ?_
            refine s_val rfl (v_len_slice Tryz.underlying97 rfl) ?_
            refine s_val rfl (v_lss rfl rfl) ?_
            refine s_val rfl (v_move rfl) ?_
            refine s_and rfl rfl rfl ?_ ?_
            · intro g7_5
              refine s_val rfl (v_move rfl) ?_
              refine s_yes rfl rfl ?_
              refine s_val rfl (v_lss rfl rfl) ?_
              refine s_val rfl (v_pick_t rfl rfl) ?_
              refine x_nil ?_
              refine n_then ?_
              refine x_if rfl ?_ ?_
              · intro c7
                refine x_skip ?_
                refine n_then ?_
                refine x_cut (fun X : List ByteArray × Option Addr × Nat => X.1.length ≤ 4 ∧ ∀ s ∈ X.1, s.size ≤ 32) (fun X => [(0, .slice ap pk.length cp), (1, .slice au puts.length cu), (5, .pointer (some ⟨p, 0, none⟩)), (7, .pointer (some ⟨pv, 0, none⟩)), (8, .pointer (some ⟨bq, 0, none⟩)), (11, .slice X.2.1 X.1.length X.2.2), (12, .int .i64 i)]) (fun X => osl 9 1 (.slice X.2.1 X.1.length X.2.2) (strs X.1) :: portsH p (pw X.1) :: pt bq (qO true (tq 4 0 0)) :: pt pv (viO ps pm d0) :: stoH ps fr0 :: pt pm (gmO (pg23 8)) :: []) ?_ ?_
                · skip
                  refine x_block ?_
                  refine x_seq ?_
                  have hi1 : i < pk.length := by omega
                  obtain ⟨gp, op, rfl, hcp⟩ := hpk i pk[i] (by simp [hi1])
                  refine x_region ?_
                  refine s_val rfl (v_move rfl) ?_
                  refine s_val rfl (v_move rfl) ?_
                  refine s_val rfl (v_move rfl) ?_
                  refine s_val rfl (v_idx Tryz.underlying97 Tryz.sizeOf9 rfl rfl rfl hi1 (by first | exact Nat.zero_add _ | rfl)) ?_
                  refine s_val rfl (v_load Tryz.isAgg9 rfl (Cells.weak (hcp []) 0 _ rfl)) ?_
                  refine s_do rfl (d_call1 Tryz.call47 rfl (prArrive_spec W0 _ p (pw want) hpo.1 0 pk[i] (hps _ (List.getElem_mem hi1)))) ?_
                  rintro _ B_ ⟨rfl, hB_⟩
                  obtain rfl := hB_.symm
                  refine s_val rfl (v_eql rfl rfl) ?_
                  refine x_nil ?_
                  refine n_then ?_
                  refine x_if rfl ?_ ?_
                  · intro c9
                    rw [pw_arP, if_pos c9]
                    obtain ⟨hz1, hz2⟩ := pw_ar0 c9
                    have hsx : strs (want ++ [pk[i]]) = strs want ++ [sV pk[i]] := by rw [strs_append]; rfl
                    have hln : (want ++ [pk[i]]).length = want.length + 1 := by simp
                    refine x_region ?_
                    refine s_val rfl (v_move rfl) ?_
                    refine s_val rfl (v_move rfl) ?_
                    refine s_val rfl (v_move rfl) ?_
                    refine s_val rfl (v_idx Tryz.underlying97 Tryz.sizeOf9 rfl rfl rfl hi1 (by first | exact Nat.zero_add _ | rfl)) ?_
                    refine s_val rfl (v_load Tryz.isAgg9 rfl (Cells.weak (hcp []) 0 _ rfl)) ?_
                    refine s_do rfl (d_sliceLit Tryz.underlying97 Tryz.sizeOf9 Tryz.zeroValue9 rfl rfl rfl rfl rfl (by decide) (by decide)) ?_
                    rintro _ _ ⟨b3, rfl, rfl⟩
                    refine s_do rfl (d_append (sz := 1) (by_ := 16) (info := Tryz.t9) Tryz.underlying97 (by kernel_rfl) rfl rfl rfl rfl (by decide) rfl rfl cells_all rfl rfl (by simp only [maxLen]; omega) (by omega)) ?_
                    rintro _ _ ⟨a3, c3, rfl, rfl⟩
                    rw [← hln, ← hsx]
                    refine s_val rfl (v_assign rfl) ?_
                    refine x_nil ?_
                    refine n_block ?_
                    refine n_then ?_
                    refine mid_intro (want ++ [pk[i]], a3, c3) ?_ ?_ ?_
                    · refine ⟨by show (want ++ [pk[i]]).length ≤ 4; omega, fun s hs => ?_⟩
                      rcases List.mem_append.1 hs with q | q
                      · exact hws s q
                      · simp at q; rw [q]; exact hz1
                    · repeat (first | exact sub_nil | refine sub_cons rfl ?_)
                    · exact inferInstance
                  · intro c9
                    rw [pw_arP, if_neg c9]
                    refine x_skip ?_
                    refine n_block ?_
                    refine n_then ?_
                    refine mid_intro (want, a0, c0) ?_ ?_ ?_
                    · exact ⟨hw4, hws⟩
                    · repeat (first | exact sub_nil | refine sub_cons rfl ?_)
                    · exact inferInstance
                · intro ⟨want1, a1, c1⟩ ⟨hv4, hvs⟩
                  refine x_region ?_
                  refine s_val rfl (v_move rfl) ?_
                  refine s_val rfl (v_add rfl rfl (by first | exact w64 (by omega) | rfl)) ?_
                  refine s_val rfl (v_assign rfl) ?_
                  refine x_nil ?_
                  refine n_then ?_
                  refine inv_intro (i + 1, want1, a1, c1) ?_ ?_ ?_ ?_
                  · exact ⟨by show i + 1 ≤ pk.length; omega, hv4, hvs⟩
                  · omega
                  · repeat (first | exact sub_nil | refine sub_cons rfl ?_)
                  · exact inferInstance
              · intro c7
                refine x_exit ?_
                refine e_then ?_
                refine e_then ?_
                refine e_block ?_
                refine n_then ?_
                refine mid_intro (want, a0, c0) ?_ ?_ ?_
                · exact ⟨hw4, hws⟩
                · repeat (first | exact sub_nil | refine sub_cons rfl ?_)
                · exact inferInstance
            · intro g7_5
              refine s_no rfl rfl rfl rfl ?_
              refine s_val rfl (v_pick_f rfl rfl) ?_
              refine x_nil ?_
              refine n_then ?_
              refine x_iff rfl ?_
              refine x_exit ?_
              refine e_then ?_
              refine e_then ?_
              refine e_block ?_
              refine n_then ?_
              refine mid_intro (want, a0, c0) ?_ ?_ ?_
              · exact ⟨hw4, hws⟩
              · repeat (first | exact sub_nil | refine sub_cons rfl ?_)
              · exact inferInstance
        · intro ⟨want, a0, c0⟩ ⟨hw4, hws⟩
          dsimp only at hw4 hws ⊢
          refine x_seq ?_
          refine x_seq ?_
          refine x_region ?_
          refine s_val rfl (v_move rfl) ?_
          refine s_val rfl (v_len_slice Tryz.underlying97 rfl) ?_
          refine s_val rfl (v_gtr rfl rfl) ?_
          refine s_val rfl (v_move rfl) ?_
          refine s_or rfl rfl rfl ?_ ?_
          · intro g11_4
            exfalso; omega
          · intro g11_4
            refine s_val rfl (v_move rfl) ?_
            refine s_yes rfl rfl ?_
            refine s_do rfl (d_call1 Tryz.call46 rfl (prWaits_spec W0 _ p (pw want) 0)) ?_
            rintro _ B_ ⟨rfl, hB_⟩
            obtain rfl := hB_.symm
            rw [pw_wt]
            refine s_yes rfl rfl ?_
            refine s_val rfl (v_move rfl) ?_
            refine s_yes rfl rfl ?_
            refine s_val rfl (v_len_slice Tryz.underlying97 rfl) ?_
            refine s_yes rfl rfl ?_
            refine s_val rfl (v_neq rfl rfl) ?_
            refine s_val rfl (v_pick_f rfl rfl) ?_
            refine x_nil ?_
            refine n_then ?_
            refine x_if rfl ?_ ?_
            · intro c11
              exact absurd rfl c11
            · intro c11
              refine x_skip ?_
              refine n_then ?_
              refine x_seq ?_
              refine run_cap (E := 9) (sz := 1) (a := a0) (c := c0) (n := want.length) (fun hcap => ?_)
              refine x_region ?_
              refine s_val rfl (v_assign rfl) ?_
              refine x_nil ?_
              refine n_then ?_
              refine x_seq ?_
              refine x_seq ?_
              refine x_region ?_
              refine s_val rfl (v_assign rfl) ?_
              refine x_nil ?_
              refine n_then ?_
              refine x_block ?_
              refine x_loop (fun X : Nat × Nat × (Option Addr × Nat) × List Frm × Nat => X.1 ≤ puts.length ∧ X.1 ≤ 12 ∧ X.2.1 ≤ want.length ∧ Lies a0 want X.2.1 X.2.2.1.1 ∧ want.length - X.2.1 ≤ X.2.2.1.2 ∧ WMem (dW 32 2) X.2.2.2.1 X.2.1 ∧ X.2.2.2.2 < 4096) (fun X => [(1, .slice au puts.length cu), (5, .pointer (some ⟨p, 0, none⟩)), (7, .pointer (some ⟨pv, 0, none⟩)), (8, .pointer (some ⟨bq, 0, none⟩)), (11, .slice X.2.2.1.1 (want.length - X.2.1) X.2.2.1.2), (13, .int .i64 X.2.1), (14, .int .i64 X.1)]) (fun X => osl 9 1 (.slice a0 want.length c0) (strs want) :: portsH p (pw (want.drop X.2.1)) :: pt bq (qO true (tq 4 X.2.1 X.2.1)) :: pt pv (viO ps pm X.2.2.2.2) :: stoH ps X.2.2.2.1 :: pt pm (gmO (pg23 8)) :: []) (fun X => 12 - X.1) (0, 0, (a0, c0), fr0, d0) ?_ ?_ ?_ ?_
              · exact ⟨Nat.zero_le _, Nat.zero_le _, Nat.zero_le _, fun S h => h, hcap.1, hM, hMd⟩
              · repeat (first | exact sub_nil | refine sub_cons rfl ?_)
              · dsimp only
                rw [List.drop_zero]
                exact inferInstance
              · intro ⟨i, q, ⟨a2, c2⟩, fr, d⟩ ⟨hi, hi12, hq, hL, hc2, hW, hd⟩
                dsimp only at hi hi12 hq hL hc2 hW hd ⊢
                have hdl : (want.drop q).length = want.length - q := by rw [List.length_drop]
                have hds : ∀ s ∈ want.drop q, s.size ≤ 32 := fun s hs => hws s (List.mem_of_mem_drop hs)
                have hpo := pw_ok (l := want.drop q) (by omega) hds
                refine x_seq ?_
                refine x_seq ?_
                refine x_region ?_
                refine s_val rfl (v_move rfl) ?_
                refine s_val rfl (v_move rfl) ?_
                refine s_val rfl (v_len_slice Tryz.underlying76 rfl) ?_
                refine s_val rfl (v_lss rfl rfl) ?_
                refine s_val rfl (v_move rfl) ?_
                refine s_and rfl rfl rfl ?_ ?_
                · intro g15_5
                  refine s_val rfl (v_move rfl) ?_
                  refine s_yes rfl rfl ?_
                  refine s_val rfl (v_lss rfl rfl) ?_
                  refine s_val rfl (v_pick_t rfl rfl) ?_
                  refine x_nil ?_
                  refine n_then ?_
                  refine x_if rfl ?_ ?_
                  · intro c15
                    refine x_skip ?_
                    refine n_then ?_
                    refine x_seq ?_
                    refine x_block ?_
                    refine x_seq ?_
                    have hi1 : i < puts.length := by omega
                    obtain ⟨gu, ou, rfl, hcu⟩ := hpu i puts[i] (by simp [hi1])
                    have hub1 := hub.get hi1
                    obtain ⟨k, hk⟩ : ∃ k, min (puts[i] % 3) (want.length - q) = k := ⟨_, rfl⟩
                    refine x_region ?_
                    refine s_val rfl (v_move rfl) ?_
                    refine s_val rfl (v_move rfl) ?_
                    refine s_val rfl (v_idx Tryz.underlying76 Tryz.sizeOf5 rfl rfl rfl hi1 (by first | exact Nat.zero_add _ | rfl)) ?_
                    refine s_val rfl (v_load Tryz.isAgg5 rfl (Cells.weak (hcu []) 0 _ rfl)) ?_
                    refine s_val rfl (v_rem rfl rfl (by decide) (tmodN puts[i] 3)) ?_
                    refine s_val rfl (v_conv Tryz.underlying5 Tryz.underlying3 rfl (w64 (by omega))) ?_
                    refine s_val rfl (v_move rfl) ?_
                    refine s_val rfl (v_len_slice Tryz.underlying97 rfl) ?_
                    refine s_val rfl (v_min rfl rfl (by split <;> omega : (if ((want.length - q : Nat) : Int) < ((puts[i] % 3 : Nat) : Int) then ((want.length - q : Nat) : Int) else ((puts[i] % 3 : Nat) : Int)) = ((k : Nat) : Int))) ?_
                    refine s_val rfl (v_assign rfl) ?_
                    refine x_nil ?_
                    refine n_then ?_
                    refine x_seq ?_
                    refine x_seq ?_
                    refine x_region ?_
                    refine s_val rfl (v_move rfl) ?_
                    refine s_val rfl (v_move rfl) ?_
                    refine s_val rfl (v_move rfl) ?_
                    refine s_do rfl (d_call5 Tryz.call43 rfl (nicRx_spec W0 _ bq p pv ps pm (pg23 8) hP 0 fr d 0 128 192 4 q q true 0 (pw (want.drop q)) (by decide) r27_ok 8 (sv_start (tq_ok (n := 4) (by omega) (by omega) (by omega)) rfl hW.frs hW.len hd hpo))) ?_
                    rintro _ B_ ⟨y, hy, rfl, hB_⟩
                    obtain rfl := hB_.symm
                    obtain ⟨f1, d1, n1, w1, e1, _, _, e0, _⟩ := rx_go 0 (fr := fr) (d := d) (i := q) (c := 0) (n := 0) (b := 0) (f := 4) (l := want.drop q) (by decide) hW hd (by omega) (by decide) (Nat.zero_le _) hds
                    obtain ⟨rfl, rfl, rfl, rfl⟩ := e0 rfl
                    rw [Nat.add_zero, List.drop_zero] at e1
                    obtain rfl : y = ⟨f1, d1, tq 4 q q, pw (want.drop q), 0, 0, 0, 0⟩ := hy.trans e1
                    dsimp only [SvS.v]
                    refine s_val rfl (v_build Tryz.underlying90 Tryz.zeroValue90 (sized_cons Tryz.sizeOf3 (sized_cons Tryz.sizeOf3 (sized_cons Tryz.sizeOf3 (sized_cons Tryz.sizeOf3 sized_nil)))) fil_nil) ?_
                    refine s_val rfl (v_neq_agg Tryz.eqGuardType90 rfl rfl (q_struct Tryz.underlying90 Tryz.stoodInHeld90 (qf_scal rfl Tryz.isAgg3 rfl rfl (q_int Tryz.underlying3) (qf_scal rfl Tryz.isAgg3 rfl rfl (q_int Tryz.underlying3) (qf_scal rfl Tryz.isAgg3 rfl rfl (q_int Tryz.underlying3) (qf_scal rfl Tryz.isAgg3 rfl rfl (q_int Tryz.underlying3) qf_nil)))))) ?_
                    refine x_nil ?_
                    refine n_then ?_
                    refine x_if rfl ?_ ?_
                    · intro c18
                      exact absurd c18 (by decide)
                    · intro c18
                      refine x_skip ?_
                      refine n_then ?_
                      refine x_seq ?_
                      refine x_region ?_
                      refine s_val rfl (v_move rfl) ?_
                      refine s_val rfl (v_move rfl) ?_
                      refine s_val rfl (v_add rfl rfl (by rw [w64 (by omega)]; omega : IntKind.wrap .i64 ((q : Int) + (k : Int)) = ((q + k : Nat) : Int))) ?_
                      refine s_val rfl (v_assign rfl) ?_
                      refine x_nil ?_
                      refine n_then ?_
                      refine x_seq ?_
                      refine x_region ?_
                      refine s_val rfl (v_move rfl) ?_
                      refine s_val rfl (v_move rfl) ?_
                      refine s_val rfl (v_conv Tryz.underlying3 Tryz.underlying53 rfl (w32u (by omega))) ?_
                      refine s_do rfl (d_call3 Tryz.call48 rfl (viSave_spec W0 _ pv ps pm d1 f1 (pg23 8) hP hW.frs hd 128 (by decide) 4 (q + k) (by omega))) ?_
                      rintro _ B_ ⟨rfl, hB_⟩
                      obtain rfl := hB_.symm
                      have hW2 := hW.save (q := q + k) (by omega)
                      have hd2 := vsvD_lt (fr := f1) (pg := pg23 8) (pa := 128) (w := 4) hd
                      generalize vsvF f1 (pg23 8) 128 4 (q + k) = f2 at hW2 ⊢
                      generalize vsvD f1 (pg23 8) 128 4 d1 = d2 at hd2 ⊢
                      refine x_nil ?_
                      refine n_then ?_
                      refine x_seq ?_
                      refine x_region ?_
                      refine s_val rfl (v_move rfl) ?_
                      refine s_val rfl (v_move rfl) ?_
                      refine s_val rfl (v_move rfl) ?_
                      refine s_do rfl (d_call5 Tryz.call43 rfl (nicRx_spec W0 _ bq p pv ps pm (pg23 8) hP 0 f2 d2 0 128 192 4 q q true 0 (pw (want.drop q)) (by decide) r27_ok 8 (sv_start (tq_ok (n := 4) (by omega) (by omega) (by omega)) rfl hW2.frs hW2.len hd2 hpo))) ?_
                      rintro _ B_ ⟨y, hy, rfl, hB_⟩
                      obtain rfl := hB_.symm
                      obtain ⟨f3, d3, n3, w3, e3, hW3, hd3, _, hrd⟩ := rx_go k (fr := f2) (d := d2) (i := q) (c := 0) (n := 0) (b := 0) (f := 4) (l := want.drop q) (by omega) hW2 hd2 (by omega) (by omega) (by omega) hds
                      rw [Nat.zero_add, List.drop_drop] at e3
                      obtain rfl : y = ⟨f3, d3, tq 4 (q + k) (q + k), pw (want.drop (q + k)), k, n3, w3, 0⟩ := hy.trans e3
                      dsimp only [SvS.v]
                      refine s_do rfl (d_allocA Tryz.zeroValue90) ?_
                      rintro _ _ ⟨bs, rfl, rfl⟩
                      refine s_do0 (d_storeAll Tryz.sizeOf90 rfl rfl rfl rfl rfl) ?_
                      rintro _ _ rfl
                      refine x_nil ?_
                      refine n_then ?_
                      refine x_seq ?_
                      refine x_seq ?_
                      refine x_region ?_
                      refine s_val rfl (v_fieldAddr rfl Tryz.underlying90 rfl Tryz.sizeOf3 rfl (by first | exact Nat.zero_add _ | rfl)) ?_
                      refine s_val rfl (v_load Tryz.isAgg3 rfl (cell_own rfl)) ?_
                      refine s_val rfl (v_move rfl) ?_
                      refine s_val rfl (v_neq rfl rfl) ?_
                      refine s_val rfl (v_move rfl) ?_
                      refine s_or rfl rfl rfl ?_ ?_
                      · intro g23_5
                        exact absurd rfl g23_5
                      · intro g23_5
                        refine s_val rfl (v_fieldAddr rfl Tryz.underlying90 rfl Tryz.sizeOf3 rfl (by first | exact Nat.zero_add _ | rfl)) ?_
                        refine s_yes rfl rfl ?_
                        refine s_val rfl (v_load Tryz.isAgg3 rfl (cell_own rfl)) ?_
                        refine s_yes rfl rfl ?_
                        refine s_val rfl (v_neq rfl rfl) ?_
                        refine s_val rfl (v_pick_f rfl rfl) ?_
                        refine x_nil ?_
                        refine n_then ?_
                        refine x_if rfl ?_ ?_
                        · intro c23
                          exact absurd rfl c23
                        · intro c23
                          refine x_skip ?_
                          refine n_then ?_
                          refine x_cut (fun _ : Unit => True) (fun _ => [(1, .slice (some ⟨gu, ou, none⟩) puts.length cu), (5, .pointer (some ⟨p, 0, none⟩)), (7, .pointer (some ⟨pv, 0, none⟩)), (8, .pointer (some ⟨bq, 0, none⟩)), (11, .slice a2 (want.length - q) c2), (13, .int .i64 ((q + k : Nat) : Int)), (14, .int .i64 i), (15, .int .i64 k)]) (fun _ => osl 9 1 (.slice a0 want.length c0) (strs want) :: portsH p (pw (want.drop (q + k))) :: pt bq (qO true (tq 4 (q + k) (q + k))) :: pt pv (viO ps pm d3) :: stoH ps f3 :: pt pm (gmO (pg23 8)) :: []) ?_ ?_
                          · skip
                            refine x_seq ?_
                            refine x_region ?_
                            refine s_val rfl (v_move rfl) ?_
                            refine s_val rfl (v_gtr rfl rfl) ?_
                            refine x_nil ?_
                            refine n_then ?_
                            refine x_if rfl ?_ ?_
                            · intro c25
                              refine x_seq ?_
                              have hk0 : 0 < k := by omega
                              refine run_sla (E := 9) (sz := 1) (a := a0) (n := want.length) (c := c0) (fun s => [sV s]) want (fun _ => rfl) (by decide) (strs_flat _) (fun hs => ?_)
                              have hs2 := hL _ hs
                              obtain ⟨gw, ow, hga, hcw⟩ := hs2.at_ (i := k - 1) (by omega)
                              have hrd' := hrd hk0
                              rw [show (want.drop q).getD (k - 1) ByteArray.empty = (want.drop q)[k - 1]'(by omega) by simp [List.getD, show k - 1 < want.length - q by omega]] at hrd'
                              have hsz' := hds _ (List.getElem_mem (show k - 1 < (want.drop q).length by omega))
                              generalize (want.drop q)[k - 1]'(by omega) = s at hcw hrd' hsz'
                              subst hga
                              refine x_region ?_
                              refine s_val rfl (v_move rfl) ?_
                              refine s_val rfl (v_move rfl) ?_
                              refine s_val rfl (v_move rfl) ?_
                              refine s_val rfl (v_sub rfl rfl (by rw [w64 (by omega)]; omega : IntKind.wrap .i64 ((k : Int) - 1) = ((k - 1 : Nat) : Int))) ?_
                              refine s_val rfl (v_idx Tryz.underlying97 Tryz.sizeOf9 rfl rfl rfl (by omega) (by first | exact Nat.zero_add _ | rfl)) ?_
                              refine s_val rfl (v_load Tryz.isAgg9 rfl (Cells.weak hcw 0 _ rfl)) ?_
                              refine s_val rfl (v_len_string Tryz.underlying9 rfl) ?_
                              refine s_do rfl (d_call3 Tryz.call44 rfl (viRead_spec W0 _ pv ps pm d3 f3 (pg23 8) hP hW3.frs 320 (by decide) (s.size : Nat))) ?_
                              rintro _ B_ ⟨a4, c4, rfl, hB_⟩
                              obtain rfl := hB_.symm
                              rw [hrd']
                              refine s_val rfl (v_move rfl) ?_
                              refine s_val rfl (v_extract rfl rfl) ?_
                              refine s_val rfl (v_extract rfl rfl) ?_
                              refine s_val rfl (v_assign rfl) ?_
                              refine s_val rfl (v_assign rfl) ?_
                              refine x_nil ?_
                              refine n_then ?_
                              refine x_seq ?_
                              refine run_sla (E := 5) (sz := 1) (a := a4) (n := (bL s).length) (c := c4) (fun x => [bV x]) (bL s) (fun _ => rfl) (by decide) (byV_fm (bL s)).symm (fun hb4 => ?_)
                              refine run_form (E := 5) (sz := 1) (a := a4) (c := c4) (n := (bL s).length) (ys := byV (bL s)) (fun hf4 => ?_)
                              refine x_draw [(obk a4, 0, byV (bL s)), (gw, ow + (k - 1) * 1, [sV s])] 8 mixed rfl (sc_cons (cells_osl (E := 5) (sz := 1) (a := a4) (c := c4) (n := (bL s).length)) (sc_cons (Cells.weak hcw) sc_end)) (fun hS => ?_)
                              refine d_take 0 rfl rfl (by kernel_rfl) (by kernel_rfl) (by kernel_rfl) rfl hS (v_move rfl) ?_
                              refine d_take 1 rfl rfl (by kernel_rfl) (by kernel_rfl) (by kernel_rfl) rfl hS (v_bstrS Tryz.underlying76 Tryz.underlying5 Tryz.underlying9 rfl (sla_cells hf4 (cells_sc (k := 0) rfl) (fun _ => rfl) (byV_fm _).symm (by decide))) ?_
                              refine d_take 2 rfl rfl (by kernel_rfl) (by kernel_rfl) (by kernel_rfl) rfl hS (v_move rfl) ?_
                              refine d_take 3 rfl rfl (by kernel_rfl) (by kernel_rfl) (by kernel_rfl) rfl hS (v_move rfl) ?_
                              refine d_take 4 rfl rfl (by kernel_rfl) (by kernel_rfl) (by kernel_rfl) rfl hS (v_sub rfl rfl (by rw [w64 (by omega)]; omega : IntKind.wrap .i64 ((k : Int) - 1) = ((k - 1 : Nat) : Int))) ?_
                              refine d_take 5 rfl rfl (by kernel_rfl) (by kernel_rfl) (by kernel_rfl) rfl hS (v_idx Tryz.underlying97 Tryz.sizeOf9 rfl rfl rfl (by omega) (by first | exact Nat.zero_add _ | rfl)) ?_
                              refine d_take 6 rfl rfl (by kernel_rfl) (by kernel_rfl) (by kernel_rfl) rfl hS (v_load Tryz.isAgg9 rfl (cell_sc1 (k := 1) rfl)) ?_
                              refine d_take 7 rfl rfl (by kernel_rfl) (by kernel_rfl) (by kernel_rfl) rfl hS (v_neq_str rfl rfl) ?_
                              refine d_done (by kernel_rfl) ?_; clear hS
                              refine n_then ?_
                              refine x_if rfl ?_ ?_
                              · intro c27
                                exact absurd c27 (by rw [strB_bL]; simp)
                              · intro c27
                                refine x_skip ?_
                                refine n_then ?_
                                refine mid_intro () ?_ ?_ ?_
                                · trivial
                                · repeat (first | exact sub_nil | refine sub_cons rfl ?_)
                                · exact inferInstance
                            · intro c25
                              refine x_skip ?_
                              refine n_then ?_
                              refine mid_intro () ?_ ?_ ?_
                              · trivial
                              · repeat (first | exact sub_nil | refine sub_cons rfl ?_)
                              · exact inferInstance
                          · intro _ _
                            refine x_seq ?_
                            refine x_region ?_
                            refine s_val rfl (v_move rfl) ?_
                            refine s_val rfl (v_move rfl) ?_
                            refine s_val rfl (v_sliceLg Tryz.underlying97 Tryz.sizeOf9 rfl (i := k) rfl rfl (by omega) rfl) ?_
                            refine s_val rfl (v_assign rfl) ?_
                            refine x_nil ?_
                            refine n_then ?_
                            refine x_seq ?_
                            refine x_region ?_
                            refine s_val rfl (v_move rfl) ?_
                            refine s_do rfl (d_call1 Tryz.call46 rfl (prWaits_spec W0 _ p (pw (want.drop (q + k))) 0)) ?_
                            rintro _ B_ ⟨rfl, hB_⟩
                            obtain rfl := hB_.symm
                            rw [pw_wt, List.length_drop]
                            refine s_val rfl (v_move rfl) ?_
                            refine s_val rfl (v_len_slice Tryz.underlying97 rfl) ?_
                            refine s_val rfl (v_neq rfl rfl) ?_
                            refine x_nil ?_
                            refine n_then ?_
                            refine x_if rfl ?_ ?_
                            · intro c30
                              exfalso; omega
                            · intro c30
                              refine x_skip ?_
                              refine n_block ?_
                              refine n_then ?_
                              refine x_region ?_
                              refine s_val rfl (v_move rfl) ?_
                              refine s_val rfl (v_add rfl rfl (by first | exact w64 (by omega) | rfl)) ?_
                              refine s_val rfl (v_assign rfl) ?_
                              refine x_nil ?_
                              refine n_then ?_
                              refine inv_intro (i + 1, q + k, (sliA a2 c2 k 1, c2 - k), f3, d3) ?_ ?_ ?_ ?_
                              · refine ⟨by show i + 1 ≤ puts.length; omega, by show i + 1 ≤ 12; omega, by show q + k ≤ want.length; omega, fun S h => ?_, by show want.length - (q + k) ≤ c2 - k; omega, hW3, hd3⟩
                                have := sla_tailG (c := c2) (i := k) (hL S h) (by omega) (by omega)
                                rwa [List.drop_drop] at this
                              · omega
                              · rw [show want.length - q - k = want.length - (q + k) by omega]
                                repeat (first | exact sub_nil | refine sub_cons rfl ?_)
                              · exact inferInstance
                  · intro c15
                    refine x_exit ?_
                    refine e_then ?_
                    refine e_then ?_
                    refine e_block ?_
                    refine n_then ?_
                    refine x_seq ?_
                    refine x_region ?_
                    refine s_do rfl (d_call Tryz.call38 rfl (awake27_spec W0 _)) ?_
                    rintro _ B_ ⟨rfl, hB_⟩
                    obtain rfl := hB_.symm
                    refine s_val rfl (v_assign rfl) ?_
                    refine x_nil ?_
                    refine n_then ?_
                    refine x_ret ?_
                    refine x_done (.inl rfl) (.cons (r_tmp rfl) .nil) ?_
                    exact ⟨_, ⟨rfl, rfl⟩, inferInstance⟩
                · intro g15_5
                  refine s_no rfl rfl rfl rfl ?_
                  refine s_val rfl (v_pick_f rfl rfl) ?_
                  refine x_nil ?_
                  refine n_then ?_
                  refine x_iff rfl ?_
                  refine x_exit ?_
                  refine e_then ?_
                  refine e_then ?_
                  refine e_block ?_
                  refine n_then ?_
                  refine x_seq ?_
                  refine x_region ?_
                  refine s_do rfl (d_call Tryz.call38 rfl (awake27_spec W0 _)) ?_
                  rintro _ B_ ⟨rfl, hB_⟩
                  obtain rfl := hB_.symm
                  refine s_val rfl (v_assign rfl) ?_
                  refine x_nil ?_
                  refine n_then ?_
                  refine x_ret ?_
                  refine x_done (.inl rfl) (.cons (r_tmp rfl) .nil) ?_
                  exact ⟨_, ⟨rfl, rfl⟩, inferInstance⟩
end Go.Proofs.YtechkfopkpkigaaGreat
namespace Go.Proofs.YtechkfopkpkigaaGreat
open Go.ChangeShapes Go.WideShapes Go.ChangeAt Go.RowKit
set_option linter.unusedSimpArgs false
set_option linter.unusedVariables false
theorem own : ownKnob Tryz.prog.godebug = none := by kernel_rfl
theorem laidOut : laidOutB Tryz.prog = true := by kernel_rfl
variable {W : World} {v : Value}
theorem wf_u8 {n : Int} (h : (Lit.int .u8 n).wf = true) : ∃ w : Nat, n = (w : Int) ∧ w < 256 := by
  simp [Lit.wf, IntKind.min, IntKind.max, IntKind.signed, IntKind.bits] at h
  exact ⟨n.toNat, by omega, by omega⟩
end Go.Proofs.YtechkfopkpkigaaGreat
namespace Go.Proofs.YtechkfopkpkigaaGreat
open Go.ChangeShapes Go.WideShapes Go.ChangeAt Go.RowKit
set_option linter.unusedSimpArgs false
set_option linter.unusedVariables false
variable {W : World} {v : Value}
theorem inT_byteB {fuel : Nat} {l : List Value} (h : InT Tryz.prog W fuel 5 l) : ∃ x : Nat, l = [bV x] ∧ x < 256 := by
  obtain ⟨n, rfl, hw⟩ := inT_int Tryz.underlying5 h
  obtain ⟨w, rfl, h'⟩ := wf_u8 hw
  exact ⟨w, rfl, h'⟩
theorem ty_bytesB (h : Ty Tryz.prog W 76 v) : ∃ a c xs, v = .slice a (List.length (α := Nat) xs) c ∧ xs.length < 9223372036854775808 ∧ xs.length ≤ c ∧ SlB W a 1 (fun x => [bV x]) xs ∧ By xs := by
  obtain ⟨a, c, xs, rfl, h1, h2, h3, h4⟩ := ty_sliceF (f := fun x => [bV x]) (Q := fun x => x < 256) 1 Tryz.underlying76 (by kernel_rfl) (by decide) (fun fuel r h => inT_byteB h) h
  exact ⟨a, c, xs, rfl, by simp only [maxLen] at h2; omega, h1, h3, h4⟩
end Go.Proofs.YtechkfopkpkigaaGreat
namespace Go.Proofs.YtechkfopkpkigaaGreat
open Go.ChangeShapes Go.WideShapes Go.ChangeAt Go.RowKit
set_option linter.unusedSimpArgs false
set_option linter.unusedVariables false
variable {W : World} {v : Value}
end Go.Proofs.YtechkfopkpkigaaGreat
namespace Go.Proofs.YtechkfopkpkigaaGreat
open Go.ChangeShapes Go.WideShapes Go.ChangeAt Go.RowKit
set_option linter.unusedSimpArgs false
set_option linter.unusedVariables false
variable {W : World} {v : Value}
theorem inT_strs {fuel : Nat} {l : List Value} (h : InT Tryz.prog W fuel 9 l) : ∃ s : ByteArray, l = [sV s] ∧ s.size < 9223372036854775808 := by
  obtain ⟨s, rfl, h1⟩ := inT_str Tryz.underlying9 h
  exact ⟨s, rfl, by simp only [maxLen] at h1; omega⟩
theorem ty_strs (h : Ty Tryz.prog W 97 v) : ∃ a c xs, v = .slice a (List.length (α := ByteArray) xs) c ∧ xs.length < 9223372036854775808 ∧ SlB W a 1 (fun s => [sV s]) xs ∧ ∀ s ∈ xs, s.size < 9223372036854775808 := by
  obtain ⟨a, c, xs, rfl, h1, h2, h3, h4⟩ := ty_sliceF (f := fun s => [sV s]) (Q := fun s => s.size < 9223372036854775808) 1 Tryz.underlying97 (by kernel_rfl) (by decide) (fun fuel r h => inT_strs h) h
  exact ⟨a, c, xs, rfl, by simp only [maxLen] at h2; omega, h3, h4⟩
end Go.Proofs.YtechkfopkpkigaaGreat
