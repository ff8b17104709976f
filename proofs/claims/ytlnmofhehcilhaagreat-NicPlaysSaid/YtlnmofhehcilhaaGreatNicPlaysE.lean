/-
  Part 5 of the proof of NicPlays: rules, and walks of functions. Conditions: none.
-/
import Derived.Test.YtlnmofhehcilhaaGreatNicPlaysD
namespace Go.Proofs.YtlnmofhehcilhaaGreat
open Go.RowKit
set_option linter.unusedSimpArgs false
set_option linter.unusedVariables false
set_option maxRecDepth 20000
structure SvS where
  fr : List Frm
  d : Nat
  s : QS
  ps : List Prt
  c : Nat
  n : Nat
  b : Nat
  w : Int
@[reducible] def SvS.v (x : SvS) : List Value := [.int .i64 x.c, .int .i64 x.n, .int .i64 x.b, .int .i64 x.w]
@[reducible] def svY (tx : Bool) (pg : List Pl) (port : Int) (x : SvS) : SvR := doR tx pg port x.ps x.fr x.d (tkR x.fr pg x.s).2.1
@[reducible] def svZ (tx : Bool) (pg : List Pl) (port : Int) (x : SvS) : DnR := dnX (svY tx pg port x).fr pg (svY tx pg port x).d (tkS x.fr pg x.s) (u32N ((tkR x.fr pg x.s).1 : Nat)) (u32N ((svY tx pg port x).t : Nat))
def zB (c : Int) : Bool := decide (c = 0)
def svSt (tx : Bool) (pg : List Pl) (port : Int) (x : SvS) : Bool × SvS :=
  if moB tx x.ps port then
    (if (tkR x.fr pg x.s).2.2.1 then (zB (svZ tx pg port x).c, ⟨(svZ tx pg port x).fr, (svZ tx pg port x).d, (svZ tx pg port x).s, (svY tx pg port x).ps, x.c + 1, x.n + (tkR x.fr pg x.s).2.1.length, x.b + (svY tx pg port x).m, (svZ tx pg port x).c⟩)
      else (false, { x with s := tkS x.fr pg x.s, w := (tkR x.fr pg x.s).2.2.2 }))
  else (false, x)
theorem svSt_mo {tx : Bool} {pg : List Pl} {port : Int} {x : SvS} (hm : moB tx x.ps port = true) : svSt tx pg port x = (if (tkR x.fr pg x.s).2.2.1 then (zB (svZ tx pg port x).c, ⟨(svZ tx pg port x).fr, (svZ tx pg port x).d, (svZ tx pg port x).s, (svY tx pg port x).ps, x.c + 1, x.n + (tkR x.fr pg x.s).2.1.length, x.b + (svY tx pg port x).m, (svZ tx pg port x).c⟩)
      else (false, { x with s := tkS x.fr pg x.s, w := (tkR x.fr pg x.s).2.2.2 })) := by rw [svSt, if_pos hm]
def svGo (tx : Bool) (pg : List Pl) (port : Int) : Nat → SvS → SvS
  | 0, x => x
  | k + 1, x => if (svSt tx pg port x).1 then svGo tx pg port k (svSt tx pg port x).2 else (svSt tx pg port x).2
theorem svGo_stop {tx : Bool} {pg : List Pl} {port : Int} {k : Nat} {x : SvS} (hk : 0 < k) (h : (svSt tx pg port x).1 = false) : svGo tx pg port k x = (svSt tx pg port x).2 := by
  obtain ⟨j, rfl⟩ : ∃ j, k = j + 1 := ⟨k - 1, by omega⟩
  rw [svGo, h]; rfl
theorem svGo_go {tx : Bool} {pg : List Pl} {port : Int} {k : Nat} {x : SvS} (hk : 0 < k) (h : (svSt tx pg port x).1 = true) : svGo tx pg port k x = svGo tx pg port (k - 1) (svSt tx pg port x).2 := by
  obtain ⟨j, rfl⟩ : ∃ j, k = j + 1 := ⟨k - 1, by omega⟩
  rw [svGo, h]; rfl
theorem tkS_r (fr : List Frm) (pg : List Pl) (s : QS) : (tkS fr pg s).r = s.r := by
  have := nxS_r fr pg s
  unfold tkS; split
  · split <;> exact this
  · exact this
theorem dnX_r (fr : List Frm) (pg : List Pl) (d : Nat) (s : QS) (h n : Nat) : (dnX fr pg d s h n).s.r = s.r := by
  unfold dnX; split
  · split
    · split
      · split <;> rfl
      · rfl
    · rfl
  · rfl
theorem tkR_ok {fr : List Frm} (hF : Frs fr) (pg : List Pl) (s : QS) : (∀ x ∈ (tkR fr pg s).2.1, x.ok) ∧ (tkR fr pg s).2.1.length ≤ 9 := by
  have h := wkAll_ok hF pg s.r (nxR fr pg s).1
  unfold tkR; split
  · split
    · exact ⟨fun x hx => by simp at hx, by simp⟩
    · exact h
  · exact ⟨fun x hx => by simp at hx, by simp⟩
structure SvOk (len : Nat) (r : Rg3) (x : SvS) : Prop where
  frs : Frs x.fr
  len : x.fr.length = len
  d : x.d < 4096
  s : QOk x.s
  r : x.s.r = r
  ps : PrS x.ps
theorem svSt_ok {tx : Bool} {pg : List Pl} {port : Int} {len : Nat} {r : Rg3} {x : SvS} (h : SvOk len r x) : SvOk len r (svSt tx pg port x).2 ∧ (svSt tx pg port x).2.c ≤ x.c + 1 ∧ (svSt tx pg port x).2.n ≤ x.n + 9 ∧ (svSt tx pg port x).2.b ≤ x.b + 36 := by
  have ht := tkR_ok h.frs pg x.s
  have hy := doR_ok (tx := tx) (pg := pg) (port := port) (l := (tkR x.fr pg x.s).2.1) h.ps h.frs h.d
  have hz := dnX_ok (pg := pg) (s := tkS x.fr pg x.s) (h := u32N ((tkR x.fr pg x.s).1 : Nat)) (n := u32N ((svY tx pg port x).t : Nat)) hy.frs hy.d (tkS_ok h.s)
  have hr := dnX_r (svY tx pg port x).fr pg (svY tx pg port x).d (tkS x.fr pg x.s) (u32N ((tkR x.fr pg x.s).1 : Nat)) (u32N ((svY tx pg port x).t : Nat))
  rw [tkS_r] at hr
  unfold svSt; split
  · split
    · exact ⟨⟨hz.1, hz.2.1.trans (hy.len.trans h.len), hz.2.2.1, hz.2.2.2, hr.trans h.r, hy.ps⟩, Nat.le_refl _, Nat.add_le_add_left ht.2 _, Nat.add_le_add_left hy.m _⟩
    · exact ⟨⟨h.frs, h.len, h.d, tkS_ok h.s, (tkS_r _ _ _).trans h.r, h.ps⟩, Nat.le_succ _, Nat.le_add_right _ _, Nat.le_add_right _ _⟩
  · exact ⟨h, Nat.le_succ _, Nat.le_add_right _ _, Nat.le_add_right _ _⟩
theorem serve_spec (W0 : World) (R : List HP) (tx : Bool) (bq pv ps_ pm : Nat) (pg : List Pl) (h : Pgs pg) (E : List Prt → HP) (port : Int) (fm : FuncId) (cm : List Value) (fd : FuncId) (cd : List Value) (hV : SvF W0 tx pv ps_ pm pg E port fm cm fd cd)
    (fr : List Frm) (d : Nat) (sd sa su n last put : Nat) (on : Bool) (br : Int) (ps : List Prt) (hn : n ≤ 8) (hr : Rg3.ok ⟨sd, sa, su, n⟩) (len : Nat) (hx : SvOk len ⟨sd, sa, su, n⟩ ⟨fr, d, ⟨⟨sd, sa, su, n⟩, on, br, last, put⟩, ps, 0, 0, 0, 0⟩) :
    Spec Tryz.prog W0 104 [.pointer (some ⟨pv, 0, none⟩), .pointer (some ⟨bq, 0, none⟩), .func (.func fm) #[] cm.toArray, .func (.func fd) #[] cd.toArray]
      (pt bq (qO true ⟨⟨sd, sa, su, n⟩, on, br, last, put⟩) :: pt pv (viO ps_ pm d) :: stoH ps_ fr :: pt pm (gmO pg) :: kH 0 (E ps) :: R)
      (fun v B => ∃ y, y = svGo tx pg port n ⟨fr, d, ⟨⟨sd, sa, su, n⟩, on, br, last, put⟩, ps, 0, 0, 0, 0⟩ ∧ v = .agg (SvS.v y).toArray ∧ B = pt bq (qO true y.s) :: pt pv (viO ps_ pm y.d) :: stoH ps_ y.fr :: pt pm (gmO pg) :: kH 0 (E y.ps) :: R) := by
  obtain ⟨x0, hx0⟩ : ∃ x0 : SvS, x0 = ⟨fr, d, ⟨⟨sd, sa, su, n⟩, on, br, last, put⟩, ps, 0, 0, 0, 0⟩ := ⟨_, rfl⟩
  rw [← hx0] at hx ⊢
  refine spec_body Tryz.func104 Tryz.ntmps104 rfl rfl ?_
  refine x_seq (x_region (s_do rfl (d_allocA Tryz.zeroValue67) ?_))
  rintro _ _ ⟨b8, rfl, rfl⟩
  refine x_nil (n_then (x_scope (x_seq (x_region (s_do rfl (d_allocA Tryz.zeroValue67) ?_)))))
  rintro _ _ ⟨b9, rfl, rfl⟩
  refine x_nil (n_then (x_seq (x_label (n_then ?_))))
  refine x_cut (fun x : SvS => x = svGo tx pg port n x0) (fun x => [(8, .pointer (some ⟨b8, 0, none⟩)), (9, .pointer (some ⟨b9, 0, none⟩))]) (fun x => pt b8 (cob [.int .i64 0, .int .i64 0, .int .i64 0, .int .i64 0] 67) :: pt b9 (cob x.v 67) :: pt bq (qO true x.s) :: pt pv (viO ps_ pm x.d) :: stoH ps_ x.fr :: pt pm (gmO pg) :: kH 0 (E x.ps) :: R) ?_ ?_
  · skip
    refine x_seq (x_region (s_val rfl (v_move rfl) (s_do rfl (d_call1 Tryz.call34 rfl (qState_spec W0 _ bq ⟨⟨sd, sa, su, n⟩, on, br, last, put⟩)) ?_)))
    rintro _ B_ ⟨rfl, hB_⟩
    obtain rfl := hB_.symm
    refine s_val rfl (v_fieldA rfl Tryz.underlying73 rfl Tryz.isAgg71 Tryz.sizeOf71 TakeL.eq) ?_
    refine s_val rfl (v_fieldV rfl Tryz.underlying71 rfl Tryz.isAgg3 rfl) ?_
    refine s_val rfl (v_move rfl) (x_nil (n_then (x_block ?_)))
    refine x_loop (fun X : Nat × SvS => X.1 ≤ n ∧ svGo tx pg port (n - X.1) X.2 = svGo tx pg port n x0 ∧ SvOk len ⟨sd, sa, su, n⟩ X.2 ∧ X.2.c ≤ X.1 ∧ X.2.n ≤ 9 * X.1 ∧ X.2.b ≤ 36 * X.1) (fun X => [(0, .pointer (some ⟨pv, 0, none⟩)), (1, .pointer (some ⟨bq, 0, none⟩)), (2, .func (.func fm) #[] cm.toArray), (3, .func (.func fd) #[] cd.toArray), (8, .pointer (some ⟨b8, 0, none⟩)), (9, .pointer (some ⟨b9, 0, none⟩)), (19, .int .i64 n), (20, .int .i64 X.1)]) (fun X => pt b8 (cob [.int .i64 0, .int .i64 0, .int .i64 0, .int .i64 0] 67) :: pt b9 (cob X.2.v 67) :: pt bq (qO true X.2.s) :: pt pv (viO ps_ pm X.2.d) :: stoH ps_ X.2.fr :: pt pm (gmO pg) :: kH 0 (E X.2.ps) :: R) (fun X => n - X.1) (0, x0) ?_ ?_ ?_ ?_
    · exact ⟨Nat.zero_le _, rfl, hx, by subst hx0; exact Nat.le_refl _, by subst hx0; exact Nat.le_refl _, by subst hx0; exact Nat.le_refl _⟩
    · repeat (first | exact sub_nil | refine sub_cons rfl ?_)
    · subst hx0; exact inferInstance
    · intro ⟨i, x⟩ ⟨hi, hgo, hok, hc, hnn, hb⟩
      dsimp only at hi hgo hok hc hnn hb ⊢
      obtain ⟨fx, dx, sx, px, cx, nx, bx, wx⟩ := x
      obtain ⟨hF, hlen, hd, hs, hsr, hps⟩ := hok
      dsimp only at hF hlen hd hs hsr hps hc hnn hb ⊢
      refine x_seq (x_region (s_val rfl (v_lss rfl rfl) (x_nil (n_then (x_seq ?_)))))
      refine x_if rfl ?_ ?_
      · intro c3
        refine x_skip (n_then (x_seq (x_block (x_seq (x_seq (x_region (s_val rfl (v_move rfl) (s_do rfl (d_callv1 (us := []) (cs := cm) rfl hV.callm rfl (hV.more px _ hps)) ?_))))))))
        rintro _ B_ ⟨rfl, hB_⟩
        obtain rfl := hB_.symm
        refine s_val rfl (v_not rfl) (x_nil (n_then ?_))
        refine x_if rfl ?_ ?_
        · intro c4
          have hm : ¬ moB tx px port = true := by simpa using c4
          have hst : svSt tx pg port ⟨fx, dx, sx, px, cx, nx, bx, wx⟩ = (false, ⟨fx, dx, sx, px, cx, nx, bx, wx⟩) := by rw [svSt, if_neg hm]
          rw [svGo_stop (by omega) (by rw [hst]), hst] at hgo
          have hfin := hgo
          refine x_exit (e_then (e_block_ne rfl (e_then (e_then (e_block (n_then ?_))))))
          refine mid_intro ⟨fx, dx, sx, px, cx, nx, bx, wx⟩ ?_ ?_ ?_
          · first
              | exact hfin
              | (have h0 : n - i = 0 := by omega
                 rw [h0] at hgo; exact hgo)
          · repeat (first | exact sub_nil | refine sub_cons rfl ?_)
          · exact inferInstance
        · intro c4
          have hm : moB tx px port = true := by simpa using c4
          obtain ⟨hl9, hl8⟩ := tkR_ok hF pg sx
          have hst1 := svSt_mo (pg := pg) (x := ⟨fx, dx, sx, px, cx, nx, bx, wx⟩) hm
          have hokn := svSt_ok (tx := tx) (pg := pg) (port := port) (x := ⟨fx, dx, sx, px, cx, nx, bx, wx⟩) (len := len) (r := ⟨sd, sa, su, n⟩) ⟨hF, hlen, hd, hs, hsr, hps⟩
          refine x_skip (n_then (x_seq (x_region (s_val rfl (v_move rfl) (s_val rfl (v_move rfl) ?_)))))
          refine s_do rfl (d_call4 Tryz.call130 rfl (qTake_spec W0 _ bq pv ps_ pm dx fx pg h hF sx hs (by rw [hsr]; exact hr))) ?_
          rintro _ B_ ⟨a, c, rfl, hB_⟩
          obtain rfl := hB_.symm
          dsimp only [svY, svZ] at hst1
          obtain ⟨r, hr⟩ : ∃ r, tkR fx pg sx = r := ⟨_, rfl⟩
          rw [hr] at hl9 hl8 hst1 ⊢
          refine s_val rfl (v_move rfl) (s_val rfl (v_extract rfl rfl) (s_val rfl (v_extract rfl rfl) (s_val rfl (v_extract rfl rfl) (s_val rfl (v_extract rfl rfl) (s_val rfl (v_assign rfl) (s_val rfl (v_assign rfl) (s_val rfl (v_assign rfl) (s_val rfl (v_assign rfl) (x_nil (n_then (x_seq (x_seq (x_region (s_val rfl (v_move rfl) (s_val rfl (v_not rfl) (x_nil (n_then ?_)))))))))))))))))
          refine x_if rfl ?_ ?_
          · intro c6
            have ht : ¬ r.2.2.1 = true := by simpa using c6
            rw [if_neg ht] at hst1
            rw [svGo_stop (by omega) (by rw [hst1]), hst1] at hgo
            have hfin := hgo
            refine x_seq (x_region (s_val rfl (v_move rfl) ?_))
            refine s_val rfl (v_fieldAddr rfl Tryz.underlying67 rfl Tryz.sizeOf3 rfl (by first | exact Nat.zero_add _ | rfl)) ?_
            refine s_do0 (d_store Tryz.sizeOf3 rfl rfl rfl (Nat.le_of_ble_eq_true rfl) SetL.eq) ?_
            rintro _ _ rfl
            refine x_nil (n_then (x_exit (e_then (e_block_ne rfl (e_then (e_then (e_block (n_then ?_))))))))
            refine mid_intro ⟨fx, dx, tkS fx pg sx, px, cx, nx, bx, r.2.2.2⟩ ?_ ?_ ?_
            · first
                | exact hfin
                | (have h0 : n - i = 0 := by omega
                   rw [h0] at hgo; exact hgo)
            · repeat (first | exact sub_nil | refine sub_cons rfl ?_)
            · exact inferInstance
          · intro c6
            have ht : r.2.2.1 = true := by simpa using c6
            rw [if_pos ht] at hst1
            have hdo := doR_ok (tx := tx) (pg := pg) (port := port) (l := r.2.1) hps hF hd
            refine x_skip (n_then (x_seq (x_region ?_)))
            refine s_val rfl (v_fieldAddr rfl Tryz.underlying67 rfl Tryz.sizeOf3 rfl (by first | exact Nat.zero_add _ | rfl)) ?_
            refine s_val rfl (v_load Tryz.isAgg3 rfl (cell_own rfl)) ?_
            refine s_val rfl (v_add rfl rfl (by rw [w64 (by omega)]; omega : IntKind.wrap .i64 ((cx : Int) + 1) = ((cx + 1 : Nat) : Int))) ?_
            refine s_val rfl (v_fieldAddr rfl Tryz.underlying67 rfl Tryz.sizeOf3 rfl (by first | exact Nat.zero_add _ | rfl)) ?_
            refine s_do0 (d_store Tryz.sizeOf3 rfl rfl rfl (Nat.le_of_ble_eq_true rfl) SetL.eq) ?_
            rintro _ _ rfl
            refine x_nil (n_then (x_seq (x_region ?_)))
            refine s_val rfl (v_fieldAddr rfl Tryz.underlying67 rfl Tryz.sizeOf3 rfl (by first | exact Nat.zero_add _ | rfl)) ?_
            refine s_val rfl (v_load Tryz.isAgg3 rfl (cell_own rfl)) ?_
            refine s_val rfl (v_move rfl) (s_val rfl (v_len_slice Tryz.underlying43 rfl) ?_)
            refine s_val rfl (v_add rfl rfl (by rw [w64 (by omega)]; omega : IntKind.wrap .i64 ((nx : Int) + (r.2.1.length : Int)) = ((nx + r.2.1.length : Nat) : Int))) ?_
            refine s_val rfl (v_fieldAddr rfl Tryz.underlying67 rfl Tryz.sizeOf3 rfl (by first | exact Nat.zero_add _ | rfl)) ?_
            refine s_do0 (d_store Tryz.sizeOf3 rfl rfl rfl (Nat.le_of_ble_eq_true rfl) SetL.eq) ?_
            rintro _ _ rfl
            refine x_nil (n_then (x_seq (x_region (s_val rfl (v_move rfl) (s_val rfl (v_move rfl) (s_do rfl (d_callv5 (us := []) (cs := cd) rfl hV.calld rfl (hV.dos px fx dx r.2.1 a c _ hps hF hd hl9 hl8)) ?_))))))
            rintro _ B_ ⟨rfl, hB_⟩
            obtain rfl := hB_.symm
            obtain ⟨y, hy⟩ : ∃ y, doR tx pg port px fx dx r.2.1 = y := ⟨_, rfl⟩
            rw [hy] at hdo hst1 ⊢
            have hym := hdo.m
            refine s_val rfl (v_move rfl) (s_val rfl (v_extract rfl rfl) (s_val rfl (v_extract rfl rfl) (s_val rfl (v_assign rfl) (s_val rfl (v_assign rfl) (x_nil (n_then (x_seq (x_region ?_))))))))
            refine s_val rfl (v_fieldAddr rfl Tryz.underlying67 rfl Tryz.sizeOf3 rfl (by first | exact Nat.zero_add _ | rfl)) ?_
            refine s_val rfl (v_load Tryz.isAgg3 rfl (cell_own rfl)) ?_
            refine s_val rfl (v_move rfl) ?_
            refine s_val rfl (v_add rfl rfl (by rw [w64 (by omega)]; omega : IntKind.wrap .i64 ((bx : Int) + (y.m : Int)) = ((bx + y.m : Nat) : Int))) ?_
            refine s_val rfl (v_fieldAddr rfl Tryz.underlying67 rfl Tryz.sizeOf3 rfl (by first | exact Nat.zero_add _ | rfl)) ?_
            refine s_do0 (d_store Tryz.sizeOf3 rfl rfl rfl (Nat.le_of_ble_eq_true rfl) SetL.eq) ?_
            rintro _ _ rfl
            refine x_nil (n_then (x_seq (x_region (s_val rfl (v_move rfl) (s_val rfl (v_move rfl) (s_val rfl (v_move rfl) (s_val rfl (v_move rfl) (s_do rfl (d_call4 Tryz.call185 rfl (qDone_spec W0 _ bq pv ps_ pm y.d y.fr pg h hdo.frs hdo.d (tkS fx pg sx) (tkS_ok hs) (r.1 : Nat) (y.t : Nat))) ?_))))))))
            rintro _ B_ ⟨rfl, hB_⟩
            obtain rfl := hB_.symm
            obtain ⟨z, hz⟩ : ∃ z, dnX y.fr pg y.d (tkS fx pg sx) (u32N (r.1 : Nat)) (u32N (y.t : Nat)) = z := ⟨_, rfl⟩
            rw [hz] at hst1 ⊢
            refine s_val rfl (v_fieldAddr rfl Tryz.underlying67 rfl Tryz.sizeOf3 rfl (by first | exact Nat.zero_add _ | rfl)) ?_
            refine s_do0 (d_store Tryz.sizeOf3 rfl rfl rfl (Nat.le_of_ble_eq_true rfl) SetL.eq) ?_
            rintro _ _ rfl
            refine x_nil (n_then (x_seq (x_region ?_)))
            refine s_val rfl (v_fieldAddr rfl Tryz.underlying67 rfl Tryz.sizeOf3 rfl (by first | exact Nat.zero_add _ | rfl)) ?_
            refine s_val rfl (v_load Tryz.isAgg3 rfl (cell_own rfl)) ?_
            refine s_val rfl (v_neq rfl rfl) (x_nil (n_then ?_))
            refine x_if rfl ?_ ?_
            · intro c13
              have hzc : zB z.c = false := decide_eq_false c13
              rw [hzc] at hst1
              rw [svGo_stop (by omega) (by rw [hst1]), hst1] at hgo
              have hfin := hgo
              refine x_exit (e_block_ne rfl (e_then (e_then (e_block (n_then ?_)))))
              refine mid_intro ⟨z.fr, z.d, z.s, y.ps, cx + 1, nx + r.2.1.length, bx + y.m, z.c⟩ ?_ ?_ ?_
              · first
                  | exact hfin
                  | (have h0 : n - i = 0 := by omega
                     rw [h0] at hgo; exact hgo)
              · repeat (first | exact sub_nil | refine sub_cons rfl ?_)
              · exact inferInstance
            · intro c13
              have hzc : zB z.c = true := decide_eq_true (Decidable.not_not.1 c13)
              rw [hzc] at hst1
              rw [svGo_go (by omega) (by rw [hst1]), hst1] at hgo
              rw [hst1] at hokn
              refine x_skip (n_block (n_then (x_region ?_)))
              refine s_val rfl (v_add rfl rfl (by first | exact w64 (by omega) | rfl)) ?_
              refine s_val rfl (v_move rfl) (x_nil (n_then ?_))
              refine inv_intro (i + 1, ⟨z.fr, z.d, z.s, y.ps, cx + 1, nx + r.2.1.length, bx + y.m, z.c⟩) ?_ ?_ ?_ ?_
              · refine ⟨by omega, ?_, hokn.1, by show cx + 1 ≤ i + 1; omega, by show nx + r.2.1.length ≤ 9 * (i + 1); omega, by show bx + y.m ≤ 36 * (i + 1); omega⟩
                rw [show n - (i + 1) = n - i - 1 by omega]; exact hgo
              · omega
              · repeat (first | exact sub_nil | refine sub_cons rfl ?_)
              · exact inferInstance
      · intro c3
        refine x_exit (e_then (e_then (e_block (n_then ?_))))
        refine mid_intro ⟨fx, dx, sx, px, cx, nx, bx, wx⟩ ?_ ?_ ?_
        · first
            | exact hfin
            | (have h0 : n - i = 0 := by omega
               rw [h0] at hgo; exact hgo)
        · repeat (first | exact sub_nil | refine sub_cons rfl ?_)
        · exact inferInstance
  · intro x rfl
    refine x_seq (x_region (s_val rfl (v_loadAll Tryz.isAgg67 Tryz.sizeOf67 rfl rfl) ?_))
    refine s_do0 (d_storeAll Tryz.sizeOf67 rfl rfl rfl rfl rfl) ?_
    rintro _ _ rfl
    refine x_nil (n_then (x_ret (r_scope (x_done (.inl rfl) (.cons (r_all Tryz.isAgg67 Tryz.sizeOf67 rfl rfl) .nil) ?_))))
    exact ⟨_, ⟨_, rfl, rfl, rfl⟩, inferInstance⟩
theorem serveN_spec (W0 : World) (R : List HP) (tx : Bool) (bq p bv pv bp bi ps_ pm : Nat) (pg : List Pl) (h : Pgs pg) (port : Int) (fm : FuncId) (cm : List Value) (fd : FuncId) (cd : List Value) (hV : SvF W0 tx pv ps_ pm pg (nicC p bv pv bp bi port) port fm cm fd cd)
    (fr : List Frm) (d : Nat) (sd sa su n last put : Nat) (on : Bool) (br : Int) (ps : List Prt) (hn : n ≤ 8) (hr : Rg3.ok ⟨sd, sa, su, n⟩) (len : Nat) (hx : SvOk len ⟨sd, sa, su, n⟩ ⟨fr, d, ⟨⟨sd, sa, su, n⟩, on, br, last, put⟩, ps, 0, 0, 0, 0⟩) :
    Spec Tryz.prog W0 104 [.pointer (some ⟨pv, 0, none⟩), .pointer (some ⟨bq, 0, none⟩), .func (.func fm) #[] cm.toArray, .func (.func fd) #[] cd.toArray]
      (pt bq (qO true ⟨⟨sd, sa, su, n⟩, on, br, last, put⟩) :: pt pv (viO ps_ pm d) :: stoH ps_ fr :: pt pm (gmO pg) :: portsH p ps :: pt bv (cob [.pointer (some ⟨pv, 0, none⟩)] 51) :: pt bp (cob [.pointer (some ⟨p, 0, none⟩)] 57) :: pt bi (cob [.int .i64 port] 3) :: R)
      (fun v B => ∃ y, y = svGo tx pg port n ⟨fr, d, ⟨⟨sd, sa, su, n⟩, on, br, last, put⟩, ps, 0, 0, 0, 0⟩ ∧ v = .agg (SvS.v y).toArray ∧ B = pt bq (qO true y.s) :: pt pv (viO ps_ pm y.d) :: stoH ps_ y.fr :: pt pm (gmO pg) :: portsH p y.ps :: R) :=
  spec_ent (B := pt bq (qO true ⟨⟨sd, sa, su, n⟩, on, br, last, put⟩) :: pt pv (viO ps_ pm d) :: stoH ps_ fr :: pt pm (gmO pg) :: kH 0 (nicC p bv pv bp bi port ps) :: R) (Ent.cons (Ent.cons (Ent.cons (Ent.cons (ent_shut (A := [_, _, _, _])))))) <|
  spec_post (serve_spec W0 R tx bq pv ps_ pm pg h _ port fm cm fd cd hV fr d sd sa su n last put on br ps hn hr len hx) fun v B hB => by
    obtain ⟨y, h1, h2, rfl⟩ := hB
    refine ⟨_, ⟨y, h1, h2, rfl⟩, Ent.cons (Ent.cons (Ent.cons (Ent.cons (ent_open.trans ?_))))⟩
    show Ent (portsH p y.ps :: pt bv (cob [.pointer (some ⟨pv, 0, none⟩)] 51) :: pt bp (cob [.pointer (some ⟨p, 0, none⟩)] 57) :: pt bi (cob [.int .i64 port] 3) :: R) (portsH p y.ps :: R)
    exact inferInstance
theorem nicTx_spec (W0 : World) (R : List HP) (bq p pv ps_ pm : Nat) (pg : List Pl) (h : Pgs pg) (port : Int)
    (fr : List Frm) (d : Nat) (sd sa su n last put : Nat) (on : Bool) (br : Int) (ps : List Prt) (hn : n ≤ 8) (hr : Rg3.ok ⟨sd, sa, su, n⟩) (len : Nat) (hx : SvOk len ⟨sd, sa, su, n⟩ ⟨fr, d, ⟨⟨sd, sa, su, n⟩, on, br, last, put⟩, ps, 0, 0, 0, 0⟩) :
    Spec Tryz.prog W0 30 [.pointer (some ⟨pv, 0, none⟩), .pointer (some ⟨bq, 0, none⟩), .pointer (some ⟨p, 0, none⟩), .int .i64 port]
      (pt bq (qO true ⟨⟨sd, sa, su, n⟩, on, br, last, put⟩) :: pt pv (viO ps_ pm d) :: stoH ps_ fr :: pt pm (gmO pg) :: portsH p ps :: R)
      (fun v B => ∃ y, y = svGo true pg port n ⟨fr, d, ⟨⟨sd, sa, su, n⟩, on, br, last, put⟩, ps, 0, 0, 0, 0⟩ ∧ v = .agg (SvS.v y).toArray ∧ B = pt bq (qO true y.s) :: pt pv (viO ps_ pm y.d) :: stoH ps_ y.fr :: pt pm (gmO pg) :: portsH p y.ps :: R) := by
  refine spec_body Tryz.func30 Tryz.ntmps30 rfl rfl ?_
  refine x_seq (x_region (s_do rfl (d_box rfl rfl) ?_))
  rintro _ _ ⟨bv, rfl, rfl⟩
  refine s_do rfl (d_box rfl rfl) ?_
  rintro _ _ ⟨bp, rfl, rfl⟩
  refine s_do rfl (d_box rfl rfl) ?_
  rintro _ _ ⟨bi, rfl, rfl⟩
  refine s_do rfl (d_allocA Tryz.zeroValue67) ?_
  rintro _ _ ⟨b8, rfl, rfl⟩
  refine x_nil (n_then (x_seq (x_region (s_val rfl (v_assign rfl) (x_nil (n_then (x_seq (x_region (s_val rfl (v_load Tryz.isAgg51 rfl (cell_own rfl)) ?_)))))))))
  refine s_val rfl (v_move rfl) (s_val rfl (v_move rfl) (s_val rfl (v_mkFunc rfl rfl) ?_))
  refine s_do rfl (d_call8 Tryz.call104 rfl (serveN_spec W0 _ true bq p bv pv bp bi ps_ pm pg h port _ [] _ [.pointer (some ⟨bv, 0, none⟩), .pointer (some ⟨bp, 0, none⟩), .pointer (some ⟨bi, 0, none⟩)] (tx_svf W0 p bv pv bp bi ps_ pm pg h port) fr d sd sa su n last put on br ps hn hr len hx)) ?_
  rintro _ B_ ⟨y, hy, rfl, hB_⟩
  obtain rfl := hB_.symm
  refine s_do0 (d_storeAll Tryz.sizeOf67 rfl rfl rfl rfl rfl) ?_
  rintro _ _ rfl
  refine x_nil (n_then (x_ret (x_done (.inl rfl) (.cons (r_all Tryz.isAgg67 Tryz.sizeOf67 rfl rfl) .nil) ?_)))
  exact ⟨_, ⟨y, hy, rfl, rfl⟩, inferInstance⟩
theorem nicRx_spec (W0 : World) (R : List HP) (bq p pv ps_ pm : Nat) (pg : List Pl) (h : Pgs pg) (port : Int)
    (fr : List Frm) (d : Nat) (sd sa su n last put : Nat) (on : Bool) (br : Int) (ps : List Prt) (hn : n ≤ 8) (hr : Rg3.ok ⟨sd, sa, su, n⟩) (len : Nat) (hx : SvOk len ⟨sd, sa, su, n⟩ ⟨fr, d, ⟨⟨sd, sa, su, n⟩, on, br, last, put⟩, ps, 0, 0, 0, 0⟩) :
    Spec Tryz.prog W0 32 [.pointer (some ⟨pv, 0, none⟩), .pointer (some ⟨bq, 0, none⟩), .pointer (some ⟨p, 0, none⟩), .int .i64 port]
      (pt bq (qO true ⟨⟨sd, sa, su, n⟩, on, br, last, put⟩) :: pt pv (viO ps_ pm d) :: stoH ps_ fr :: pt pm (gmO pg) :: portsH p ps :: R)
      (fun v B => ∃ y, y = svGo false pg port n ⟨fr, d, ⟨⟨sd, sa, su, n⟩, on, br, last, put⟩, ps, 0, 0, 0, 0⟩ ∧ v = .agg (SvS.v y).toArray ∧ B = pt bq (qO true y.s) :: pt pv (viO ps_ pm y.d) :: stoH ps_ y.fr :: pt pm (gmO pg) :: portsH p y.ps :: R) := by
  refine spec_body Tryz.func32 Tryz.ntmps32 rfl rfl ?_
  refine x_seq (x_region (s_do rfl (d_box rfl rfl) ?_))
  rintro _ _ ⟨bv, rfl, rfl⟩
  refine s_do rfl (d_box rfl rfl) ?_
  rintro _ _ ⟨bp, rfl, rfl⟩
  refine s_do rfl (d_box rfl rfl) ?_
  rintro _ _ ⟨bi, rfl, rfl⟩
  refine s_do rfl (d_allocA Tryz.zeroValue67) ?_
  rintro _ _ ⟨b8, rfl, rfl⟩
  refine x_nil (n_then (x_seq (x_region (s_val rfl (v_mkFunc rfl rfl) ?_))))
  refine s_val rfl (v_assign rfl) (x_nil (n_then (x_seq (x_region (s_val rfl (v_load Tryz.isAgg51 rfl (cell_own rfl)) ?_)))))
  refine s_val rfl (v_move rfl) (s_val rfl (v_move rfl) (s_val rfl (v_mkFunc rfl rfl) ?_))
  refine s_do rfl (d_call8 Tryz.call104 rfl (serveN_spec W0 _ false bq p bv pv bp bi ps_ pm pg h port _ [.pointer (some ⟨bp, 0, none⟩), .pointer (some ⟨bi, 0, none⟩)] _ [.pointer (some ⟨bp, 0, none⟩), .pointer (some ⟨bi, 0, none⟩), .pointer (some ⟨bv, 0, none⟩)] (rx_svf W0 p bv pv bp bi ps_ pm pg h port) fr d sd sa su n last put on br ps hn hr len hx)) ?_
  rintro _ B_ ⟨y, hy, rfl, hB_⟩
  obtain rfl := hB_.symm
  refine s_do0 (d_storeAll Tryz.sizeOf67 rfl rfl rfl rfl rfl) ?_
  rintro _ _ rfl
  refine x_nil (n_then (x_ret (x_done (.inl rfl) (.cons (r_all Tryz.isAgg67 Tryz.sizeOf67 rfl rfl) .nil) ?_)))
  exact ⟨_, ⟨y, hy, rfl, rfl⟩, inferInstance⟩
end Go.Proofs.YtlnmofhehcilhaaGreat
namespace Go.Proofs.YtlnmofhehcilhaaGreat
open Go.RowKit
set_option linter.unusedSimpArgs false
set_option linter.unusedVariables false
set_option maxRecDepth 20000
theorem bytesL_take {ws : List Nat} {i : Nat} (h : i < ws.length) : bytesL (ws.take (i + 1)) = bytesL (ws.take i) ++ leB 4 ws[i] := by
  rw [List.take_succ_eq_append_getElem h, bytesL, List.flatMap_append]; simp [bytesL]
theorem rfBytes_spec (W0 : World) (R : List HP) (a : Option Addr) (c : Nat) (ws : List Nat) (hs : SlA (OwnP W0 R) a 1 (fun x => [wV x]) ws) (hw : ∀ w ∈ ws, w < 4294967296) (hl : ws.length ≤ 10000) :
    Spec Tryz.prog W0 256 [.slice a ws.length c] R (fun v B => ∃ a' c', v = .slice a' (4 * ws.length : Nat) c' ∧ B = osl 5 1 (.slice a' (4 * ws.length : Nat) c') (byV (bytesL ws)) :: R) := by
  refine spec_body Tryz.func256 Tryz.ntmps256 rfl rfl ?_
  refine x_seq (x_region (s_val rfl (v_assign rfl) (x_nil (n_then (x_seq (x_region (s_val rfl (v_assign rfl) (x_nil (n_then (x_seq (x_seq (x_region (s_val rfl (v_assign rfl) (x_nil (n_then (x_block ?_))))))))))))))))
  refine x_loop (fun X : Nat × Option Addr × Nat => X.1 ≤ ws.length) (fun X => [(0, .slice a ws.length c), (3, .slice X.2.1 (4 * X.1 : Nat) X.2.2), (4, .int .i64 X.1)]) (fun X => osl 5 1 (.slice X.2.1 (4 * X.1 : Nat) X.2.2) (byV (bytesL (ws.take X.1))) :: R) (fun X => ws.length - X.1) (0, none, 0) ?_ ?_ ?_ ?_
  · exact Nat.zero_le _
  · repeat (first | exact sub_nil | refine sub_cons rfl ?_)
  · exact ent_osl_nil
  · intro ⟨i, a1, c1⟩ hi
    dsimp only at hi ⊢
    refine x_seq (x_seq (x_region (s_val rfl (v_move rfl) (s_val rfl (v_move rfl) (s_val rfl (v_len_slice Tryz.underlying45 rfl) (s_val rfl (v_lss rfl rfl) (x_nil (n_then ?_))))))))
    refine x_if rfl ?_ ?_
    · intro c3
      refine x_skip (n_then (x_seq (x_block (x_seq ?_))))
      have hi1 : i < ws.length := by omega
      obtain ⟨g, o, rfl, hc⟩ := hs.at_ hi1
      have hwi := hw _ (List.getElem_mem hi1)
      have htl : (bytesL (ws.take i)).length = 4 * i := by rw [bytesL_len, List.length_take]; omega
      refine x_region (s_val rfl (v_assign rfl) (x_nil (n_then (x_block ?_))))
      refine x_loop (fun X : Nat × Option Addr × Nat => X.1 ≤ 4) (fun X => [(0, .slice (some ⟨g, o, none⟩) ws.length c), (3, .slice X.2.1 (4 * i + X.1 : Nat) X.2.2), (4, .int .i64 i), (5, .int .i64 X.1)]) (fun X => osl 5 1 (.slice X.2.1 (4 * i + X.1 : Nat) X.2.2) (byV (bytesL (ws.take i) ++ leB X.1 ws[i])) :: R) (fun X => 4 - X.1) (0, a1, c1) ?_ ?_ ?_ ?_
      · exact Nat.zero_le _
      · repeat (first | exact sub_nil | refine sub_cons rfl ?_)
      · show Ent _ (osl 5 1 (.slice a1 (4 * i + 0 : Nat) c1) (byV (bytesL (ws.take i) ++ [])) :: R)
        rw [List.append_nil]; exact inferInstance
      · intro ⟨k, a2, c2⟩ hk
        dsimp only at hk ⊢
        refine x_seq (x_seq (x_region (s_val rfl (v_move rfl) (s_val rfl (v_lss rfl rfl) (x_nil (n_then ?_))))))
        refine x_if rfl ?_ ?_
        · intro c6
          refine x_skip (n_then (x_seq (x_block (x_region (s_val rfl (v_move rfl) (s_val rfl (v_move rfl) (s_val rfl (v_move rfl) ?_)))))))
          refine s_val rfl (v_idx Tryz.underlying45 Tryz.sizeOf47 rfl rfl rfl hi1 (by first | exact Nat.zero_add _ | rfl)) ?_
          refine s_val rfl (v_load Tryz.isAgg47 rfl (Cells.weak hc 0 _ rfl)) ?_
          refine s_val rfl (v_move rfl) ?_
          refine s_val rfl (v_mul rfl rfl (by rw [w64 (by omega)]; omega : IntKind.wrap .i64 (8 * (k : Int)) = ((8 * k : Nat) : Int))) ?_
          refine s_val rfl (v_shr rfl rfl (by omega) rfl) ?_
          refine s_val rfl (v_conv Tryz.underlying47 Tryz.underlying5 rfl (byte_of (by omega))) ?_
          refine s_do rfl (d_sliceLit Tryz.underlying44 Tryz.sizeOf5 Tryz.zeroValue5 rfl rfl rfl rfl rfl (by decide) (by decide)) ?_
          rintro _ _ ⟨b1, rfl, rfl⟩
          refine s_do rfl (d_append (sz := 1) (by_ := 1) (info := Tryz.t5) Tryz.underlying44 (by kernel_rfl) rfl rfl rfl rfl (by decide) rfl rfl cells_all rfl rfl (by simp only [maxLen]; omega) (by omega)) ?_
          rintro _ _ ⟨a3, c3, rfl, rfl⟩
          refine s_val rfl (v_assign rfl) (x_nil (n_block (n_then (x_region (s_val rfl (v_move rfl) ?_)))))
          refine s_val rfl (v_add rfl rfl (by first | exact w64 (by omega) | rfl)) ?_
          refine s_val rfl (v_assign rfl) (x_nil (n_then ?_))
          refine inv_intro (k + 1, a3, c3) ?_ ?_ ?_ ?_
          · omega
          · omega
          · repeat (first | exact sub_nil | refine sub_cons rfl ?_)
          · show Ent _ (osl 5 1 (.slice a3 (4 * i + k + 1 : Nat) c3) (byV (bytesL (ws.take i) ++ leB (k + 1) ws[i])) :: R)
            rw [leB_succ, show byV (bytesL (ws.take i) ++ (leB k ws[i] ++ [ws[i] / 256 ^ k % 256])) = byV (bytesL (ws.take i) ++ leB k ws[i]) ++ [.int .u8 ((ws[i] / 256 ^ k % 256 : Nat) : Int)] by rw [← List.append_assoc, byV_append]; rfl]
            exact inferInstance
        · intro c6
          refine x_exit (e_then (e_then (e_block (n_block (n_then ?_)))))
          obtain rfl : k = 4 := by omega
          refine x_region (s_val rfl (v_move rfl) ?_)
          refine s_val rfl (v_add rfl rfl (by first | exact w64 (by omega) | rfl)) ?_
          refine s_val rfl (v_assign rfl) (x_nil (n_then ?_))
          refine inv_intro (i + 1, a2, c2) ?_ ?_ ?_ ?_
          · omega
          · omega
          · repeat (first | exact sub_nil | refine sub_cons rfl ?_)
          · show Ent _ (osl 5 1 (.slice a2 (4 * i + 4 : Nat) c2) (byV (bytesL (ws.take (i + 1)))) :: R)
            rw [bytesL_take hi1]; exact inferInstance
    · intro c3
      refine x_exit (e_then (e_then (e_block (n_then (x_seq (x_region (s_val rfl (v_move rfl) (s_val rfl (v_assign rfl) (x_nil (n_then (x_ret (x_done (.inl rfl) (.cons (r_tmp rfl) .nil) ?_))))))))))))
      obtain rfl : i = ws.length := by omega
      rw [List.take_of_length_le (Nat.le_refl _)]
      exact ⟨_, ⟨a1, c1, rfl, rfl⟩, inferInstance⟩
theorem rfBytes1_spec (W0 : World) (R : List HP) (a : Option Addr) (c w : Nat) (hs : SlA (OwnP W0 R) a 1 (fun x => [wV x]) [w]) (hw : w < 4294967296) :
    Spec Tryz.prog W0 256 [.slice a 1 c] R (fun v B => ∃ a' c', v = .slice a' 4 c' ∧ B = osl 5 1 (.slice a' 4 c') (byV (bytesL [w])) :: R) :=
  rfBytes_spec W0 R a c [w] hs (fun x hx => by simp at hx; omega) (by simp)
theorem rvPut_spec (W0 : World) (R : List HP) (qv qs qm d : Nat) (fr : List Frm) (pg : List Pl) (h : Pgs pg) (hF : Frs fr) (pa : Nat) (hpa : pa < 4294967296) (w : Nat) (hw : w < 4294967296) :
    Spec Tryz.prog W0 194 [.pointer (some ⟨qv, 0, none⟩), .int .u32 pa, .int .u32 w] (rvwW qv qs qm d fr pg R)
      (fun v B => v = .bool (ownB fr.length pg pa 4) ∧ B = rvwW qv qs qm (wrE fr pg pa d 4) (wrF fr pg pa (bytesL [w])) pg R) := by
  refine spec_body Tryz.func194 Tryz.ntmps194 rfl rfl ?_
  refine x_seq (x_region (s_val rfl (v_assign rfl) (x_nil (n_then (x_seq (x_region (s_val rfl (v_move rfl) (s_val rfl (v_move rfl) (s_val rfl (v_move rfl) ?_)))))))))
  refine s_do rfl (d_sliceLit Tryz.underlying45 Tryz.sizeOf47 Tryz.zeroValue47 rfl rfl rfl rfl rfl (by decide) (by decide)) ?_
  rintro _ _ ⟨b1, rfl, rfl⟩
  refine s_do rfl (d_call Tryz.call256 rfl (rfBytes1_spec W0 _ (some ⟨b1, 0, none⟩) _ w (sla_pt (fun _ => rfl) rfl) hw)) ?_
  rintro _ B_ ⟨a', c', rfl, hB_⟩
  obtain rfl := hB_.symm
  refine run_form (E := 5) (sz := 1) (a := a') (c := c') (n := 4) (fun hf => ?_)
  refine s_do rfl (d_call3 Tryz.call89 rfl (rvWriteN_spec W0 _ qv qs qm d c' 4 a' fr pg h hF pa hpa (bytesL [w]) (by rw [bytesL_len]; rfl) (bytesL_by _) (sla_cells hf (cells_osl (E := 5) (sz := 1) (a := a') (c := c') (n := 4)) (fun _ => rfl) (byV_fm _).symm (by decide)) (by decide))) ?_
  rintro _ B_ ⟨rfl, hB_⟩
  obtain rfl := hB_.symm
  refine s_val rfl (v_assign rfl) (x_nil (n_then (x_ret (x_done (.inl rfl) (.cons (r_tmp rfl) .nil) ?_))))
  exact ⟨_, ⟨rfl, rfl⟩, inferInstance⟩
theorem rdSize_spec (W0 : World) (R : List HP) (p : Nat) (n : Int) : Spec Tryz.prog W0 183 [.int .i64 p, .int .i64 n] R (fun v B => v = .int .i64 (qSz p n) ∧ B = R) := by
  refine spec_body Tryz.func183 Tryz.ntmps183 rfl rfl ?_
  refine x_seq (x_region (s_val rfl (v_assign rfl) (x_nil (n_then (x_seq (x_seq (x_region (s_val rfl (v_move rfl) (s_do rfl (d_call Tryz.call246 rfl (rdSized_spec W0 _ n)) ?_)))))))))
  rintro _ B_ ⟨rfl, hB_⟩
  obtain rfl := hB_.symm
  refine s_val rfl (v_not rfl) (x_nil (n_then ?_))
  refine x_if rfl ?_ ?_
  · intro c1
    refine x_seq (x_region (s_val rfl (v_assign rfl) (x_nil (n_then (x_ret (r_then (x_done (.inl rfl) (.cons (r_tmp rfl) .nil) ?_)))))))
    refine ⟨_, ⟨?_, rfl⟩, inferInstance⟩
    have hz : ¬ szd n = true := c1
    refine congrArg (Value.int .i64) (Eq.symm ?_)
    rw [qSz, if_neg hz]
  · intro c1
    have hz : szd n = true := Decidable.not_not.1 c1
    have hn := szd_iff.1 hz
    refine x_skip (n_then (x_seq (x_seq (x_region (s_val rfl (v_move rfl) (x_nil (n_then (x_block (x_seq (x_region (s_val rfl (v_eql rfl rfl) (s_val rfl (v_assign rfl) (x_nil (n_then ?_))))))))))))))
    refine x_if rfl ?_ ?_
    · intro c4
      refine x_seq (x_region (s_val rfl (v_move rfl) ?_))
      refine s_val rfl (v_mul rfl rfl (w64 (by omega))) ?_
      refine s_val rfl (v_assign rfl) (x_nil (n_then (x_ret (r_block (r_then (x_done (.inl rfl) (.cons (r_tmp rfl) .nil) ?_))))))
      refine ⟨_, ⟨?_, rfl⟩, inferInstance⟩
      refine congrArg (Value.int .i64) (Eq.symm ?_)
      rw [qSz, if_pos hz]
      (repeat' split) <;> first | rfl | omega
    · intro c4
      refine x_seq (x_region (s_val rfl (v_eql rfl rfl) (s_val rfl (v_assign rfl) (x_nil (n_then ?_)))))
      refine x_if rfl ?_ ?_
      · intro c6
        refine x_seq (x_region (s_val rfl (v_move rfl) ?_))
        refine s_val rfl (v_mul rfl rfl (w64 (by omega))) ?_
        refine s_val rfl (v_add rfl rfl (w64 (by omega))) ?_
        refine s_val rfl (v_assign rfl) (x_nil (n_then (x_ret (r_block (r_then (x_done (.inl rfl) (.cons (r_tmp rfl) .nil) ?_))))))
        refine ⟨_, ⟨?_, rfl⟩, inferInstance⟩
        refine congrArg (Value.int .i64) (Eq.symm ?_)
        rw [qSz, if_pos hz]
        (repeat' split) <;> first | rfl | omega
      · intro c6
        refine x_seq (x_region (s_val rfl (v_eql rfl rfl) (s_val rfl (v_assign rfl) (x_nil (n_then ?_)))))
        refine x_if rfl ?_ ?_
        · intro c8
          refine x_seq (x_region (s_val rfl (v_move rfl) ?_))
          refine s_val rfl (v_mul rfl rfl (w64 (by omega))) ?_
          refine s_val rfl (v_add rfl rfl (w64 (by omega))) ?_
          refine s_val rfl (v_assign rfl) (x_nil (n_then (x_ret (r_block (r_then (x_done (.inl rfl) (.cons (r_tmp rfl) .nil) ?_))))))
          refine ⟨_, ⟨?_, rfl⟩, inferInstance⟩
          refine congrArg (Value.int .i64) (Eq.symm ?_)
          rw [qSz, if_pos hz]
          (repeat' split) <;> first | rfl | omega
        · intro c8
          refine x_skip (n_block (n_then (x_seq (x_region (s_val rfl (v_assign rfl) (x_nil (n_then (x_ret (x_done (.inl rfl) (.cons (r_tmp rfl) .nil) ?_)))))))))
          refine ⟨_, ⟨?_, rfl⟩, inferInstance⟩
          refine congrArg (Value.int .i64) (Eq.symm ?_)
          rw [qSz, if_pos hz]
          (repeat' split) <;> first | rfl | omega
abbrev rqO (s : QS) : Obj := cob (qsV s) 76
theorem fit_rgt {len : Nat} {pg : List Pl} {r : Rg3} (h : fitB len pg r = true) : rgtB r = true ∧ ownB len pg r.desc (qSz 0 r.n) = true ∧ ownB len pg r.avail (qSz 1 r.n) = true ∧ ownB len pg r.used (qSz 2 r.n) = true := by
  simp only [fitB, Bool.and_eq_true] at h
  exact ⟨h.2, h.1.1.1, h.1.1.2, h.1.2⟩
theorem rqLay_spec (W0 : World) (R : List HP) (b qv qs qm d : Nat) (fr : List Frm) (pg : List Pl) (h : Pgs pg) (s : QS) (r : Rg3) (hr : r.ok) (hf : fitB fr.length pg r = true) :
    Spec Tryz.prog W0 94 [.pointer (some ⟨b, 0, none⟩), .pointer (some ⟨qv, 0, none⟩), .agg (rgV r).toArray] (pt b (rqO s) :: rvwW qv qs qm d fr pg R)
      (fun v B => v = .int .i64 0 ∧ B = pt b (rqO ⟨r, true, 0, 0, 0⟩) :: rvwW qv qs qm d fr pg R) := by
  obtain ⟨f1, f2, f3, f4⟩ := fit_rgt hf
  refine spec_body Tryz.func94 Tryz.ntmps94 rfl rfl ?_
  refine x_seq (x_region (s_do rfl (d_boxA rfl) ?_))
  rintro _ _ ⟨b1, rfl, rfl⟩
  refine s_val rfl (v_assign rfl) (x_nil (n_then (x_seq (x_seq ?_))))
  refine x_draw [(b1, 0, _)] 33 mixed rfl (sc_own sc_end) (fun hS => ?_)
  refine d_take 0 rfl rfl (by kernel_rfl) (by kernel_rfl) (by kernel_rfl) rfl hS (v_loadAgg Tryz.isAgg71 Tryz.sizeOf71 rfl (cells_sc (k := 0) rfl) rfl) ?_
  refine d_one 1 (by kernel_rfl) rfl rfl (d_call Tryz.call182 rfl (rdRight_spec W0 _ r)) rfl ?_; clear hS
  rintro _ B_ ⟨rfl, hB_⟩
  obtain rfl := hB_.symm
  refine ⟨(sc_own sc_end), fun hS => ?_⟩
  refine d_take 2 rfl rfl (by kernel_rfl) (by kernel_rfl) (by kernel_rfl) rfl hS (v_not rfl) ?_
  refine d_take 3 rfl rfl (by kernel_rfl) (by kernel_rfl) (by kernel_rfl) rfl hS (v_move rfl) ?_
  refine x_split (t := 10) rfl ?_ ?_
  · intro g1_4
    exact absurd f1 g1_4
  · intro g1_4
    refine d_take 4 rfl rfl (by kernel_rfl) (by kernel_rfl) (by kernel_rfl) rfl hS (v_move rfl) ?_
    refine d_take 5 rfl rfl (by kernel_rfl) (by kernel_rfl) (by kernel_rfl) rfl hS (v_fieldAddr rfl Tryz.underlying71 rfl Tryz.sizeOf47 rfl (by first | exact Nat.zero_add _ | rfl)) ?_
    refine d_take 6 rfl rfl (by kernel_rfl) (by kernel_rfl) (by kernel_rfl) rfl hS (v_load Tryz.isAgg47 rfl (cell_sc0 (k := 0) rfl rfl)) ?_
    refine d_take 7 rfl rfl (by kernel_rfl) (by kernel_rfl) (by kernel_rfl) rfl hS (v_fieldAddr rfl Tryz.underlying71 rfl Tryz.sizeOf3 rfl (by first | exact Nat.zero_add _ | rfl)) ?_
    refine d_take 8 rfl rfl (by kernel_rfl) (by kernel_rfl) (by kernel_rfl) rfl hS (v_load Tryz.isAgg3 rfl (cell_sc0 (k := 0) rfl rfl)) ?_
    refine d_one 9 (by kernel_rfl) rfl rfl (d_call Tryz.call183 rfl (rdSize_spec W0 _ 0 r.n)) rfl ?_; clear hS
    rintro _ B_ ⟨rfl, hB_⟩
    obtain rfl := hB_.symm
    refine ⟨(sc_own sc_end), fun hS => ?_⟩
    refine d_one 10 (by kernel_rfl) rfl rfl (d_call3 Tryz.call177 rfl (rvOwn_spec W0 _ qv qs qm d fr pg h r.desc hr.desc (qSz 0 r.n))) rfl ?_; clear hS
    rintro _ B_ ⟨rfl, hB_⟩
    obtain rfl := hB_.symm
    refine ⟨(sc_own sc_end), fun hS => ?_⟩
    refine d_take 11 rfl rfl (by kernel_rfl) (by kernel_rfl) (by kernel_rfl) rfl hS (v_not rfl) ?_
    refine d_take 12 rfl rfl (by kernel_rfl) (by kernel_rfl) (by kernel_rfl) rfl hS (v_pick_f rfl rfl) ?_
    refine d_take 13 rfl rfl (by kernel_rfl) (by kernel_rfl) (by kernel_rfl) rfl hS (v_move rfl) ?_
    refine x_split (t := 20) rfl ?_ ?_
    · intro g1_14
      exact absurd f2 g1_14
    · intro g1_14
      refine d_take 14 rfl rfl (by kernel_rfl) (by kernel_rfl) (by kernel_rfl) rfl hS (v_move rfl) ?_
      refine d_take 15 rfl rfl (by kernel_rfl) (by kernel_rfl) (by kernel_rfl) rfl hS (v_fieldAddr rfl Tryz.underlying71 rfl Tryz.sizeOf47 rfl (by first | exact Nat.zero_add _ | rfl)) ?_
      refine d_take 16 rfl rfl (by kernel_rfl) (by kernel_rfl) (by kernel_rfl) rfl hS (v_load Tryz.isAgg47 rfl (cell_sc0 (k := 0) rfl rfl)) ?_
      refine d_take 17 rfl rfl (by kernel_rfl) (by kernel_rfl) (by kernel_rfl) rfl hS (v_fieldAddr rfl Tryz.underlying71 rfl Tryz.sizeOf3 rfl (by first | exact Nat.zero_add _ | rfl)) ?_
      refine d_take 18 rfl rfl (by kernel_rfl) (by kernel_rfl) (by kernel_rfl) rfl hS (v_load Tryz.isAgg3 rfl (cell_sc0 (k := 0) rfl rfl)) ?_
      refine d_one 19 (by kernel_rfl) rfl rfl (d_call Tryz.call183 rfl (rdSize_spec W0 _ 1 r.n)) rfl ?_; clear hS
      rintro _ B_ ⟨rfl, hB_⟩
      obtain rfl := hB_.symm
      refine ⟨(sc_own sc_end), fun hS => ?_⟩
      refine d_one 20 (by kernel_rfl) rfl rfl (d_call3 Tryz.call177 rfl (rvOwn_spec W0 _ qv qs qm d fr pg h r.avail hr.avail (qSz 1 r.n))) rfl ?_; clear hS
      rintro _ B_ ⟨rfl, hB_⟩
      obtain rfl := hB_.symm
      refine ⟨(sc_own sc_end), fun hS => ?_⟩
      refine d_take 21 rfl rfl (by kernel_rfl) (by kernel_rfl) (by kernel_rfl) rfl hS (v_not rfl) ?_
      refine d_take 22 rfl rfl (by kernel_rfl) (by kernel_rfl) (by kernel_rfl) rfl hS (v_pick_f rfl rfl) ?_
      refine d_take 23 rfl rfl (by kernel_rfl) (by kernel_rfl) (by kernel_rfl) rfl hS (v_move rfl) ?_
      refine x_split (t := 30) rfl ?_ ?_
      · intro g1_24
        exact absurd f3 g1_24
      · intro g1_24
        refine d_take 24 rfl rfl (by kernel_rfl) (by kernel_rfl) (by kernel_rfl) rfl hS (v_move rfl) ?_
        refine d_take 25 rfl rfl (by kernel_rfl) (by kernel_rfl) (by kernel_rfl) rfl hS (v_fieldAddr rfl Tryz.underlying71 rfl Tryz.sizeOf47 rfl (by first | exact Nat.zero_add _ | rfl)) ?_
        refine d_take 26 rfl rfl (by kernel_rfl) (by kernel_rfl) (by kernel_rfl) rfl hS (v_load Tryz.isAgg47 rfl (cell_sc0 (k := 0) rfl rfl)) ?_
        refine d_take 27 rfl rfl (by kernel_rfl) (by kernel_rfl) (by kernel_rfl) rfl hS (v_fieldAddr rfl Tryz.underlying71 rfl Tryz.sizeOf3 rfl (by first | exact Nat.zero_add _ | rfl)) ?_
        refine d_take 28 rfl rfl (by kernel_rfl) (by kernel_rfl) (by kernel_rfl) rfl hS (v_load Tryz.isAgg3 rfl (cell_sc0 (k := 0) rfl rfl)) ?_
        refine d_one 29 (by kernel_rfl) rfl rfl (d_call Tryz.call183 rfl (rdSize_spec W0 _ 2 r.n)) rfl ?_; clear hS
        rintro _ B_ ⟨rfl, hB_⟩
        obtain rfl := hB_.symm
        refine ⟨(sc_own sc_end), fun hS => ?_⟩
        refine d_one 30 (by kernel_rfl) rfl rfl (d_call3 Tryz.call177 rfl (rvOwn_spec W0 _ qv qs qm d fr pg h r.used hr.used (qSz 2 r.n))) rfl ?_; clear hS
        rintro _ B_ ⟨rfl, hB_⟩
        obtain rfl := hB_.symm
        refine ⟨(sc_own sc_end), fun hS => ?_⟩
        refine d_take 31 rfl rfl (by kernel_rfl) (by kernel_rfl) (by kernel_rfl) rfl hS (v_not rfl) ?_
        refine d_take 32 rfl rfl (by kernel_rfl) (by kernel_rfl) (by kernel_rfl) rfl hS (v_pick_f rfl rfl) ?_
        refine d_done (by kernel_rfl) ?_; clear hS
        refine n_then ?_
        refine x_if rfl ?_ ?_
        · intro c1
          exact absurd f4 c1
        · intro c1
          refine x_skip (n_then (x_seq (x_region (s_val rfl (v_move rfl) (s_val rfl (v_loadAll Tryz.isAgg71 Tryz.sizeOf71 rfl rfl) ?_)))))
          refine s_val rfl (v_build Tryz.underlying73 Tryz.zeroValue73 (sized_cons Tryz.sizeOf71 (sized_cons Tryz.sizeOf4 (sized_cons Tryz.sizeOf3 (sized_cons Tryz.sizeOf3 (sized_cons Tryz.sizeOf3 sized_nil))))) (fil_agg rfl Tryz.sizeOf71 rfl rfl (Nat.le_of_ble_eq_true rfl) SetRL.eq (fil_scal rfl Tryz.sizeOf4 rfl rfl (Nat.le_of_ble_eq_true rfl) SetL.eq fil_nil))) ?_
          refine s_val rfl (v_nilCheck rfl) ?_
          refine s_val rfl (v_fieldAddr rfl Tryz.underlying76 rfl Tryz.sizeOf73 rfl (by first | exact Nat.zero_add _ | rfl)) ?_
          refine s_do0 (d_storeAgg Tryz.sizeOf73 rfl rfl rfl rfl (Nat.le_of_ble_eq_true rfl) SetRL.eq) ?_
          rintro _ _ rfl
          refine x_nil (n_then (x_seq (x_region (s_val rfl (v_assign rfl) (x_nil (n_then (x_ret (x_done (.inl rfl) (.cons (r_tmp rfl) .nil) ?_))))))))
          exact ⟨_, ⟨rfl, rfl⟩, inferInstance⟩
theorem rqBreaks_spec (W0 : World) (R : List HP) (b : Nat) (s : QS) (w : Int) : Spec Tryz.prog W0 253 [.pointer (some ⟨b, 0, none⟩), .int .i64 w] (pt b (rqO s) :: R)
    (fun v B => v = .tuple #[.int .i64 0, .bool false, .int .i64 w] ∧ B = pt b (rqO { s with br := w }) :: R) := by
  refine spec_body Tryz.func253 Tryz.ntmps253 rfl rfl ?_
  refine x_seq (x_region (s_val rfl (v_assign rfl) (s_val rfl (v_assign rfl) (s_val rfl (v_assign rfl) (x_nil (n_then (x_seq (x_region (s_val rfl (v_move rfl) (s_val rfl (v_move rfl) (s_val rfl (v_nilCheck rfl) ?_)))))))))))
  refine s_val rfl (v_fieldAddr rfl Tryz.underlying76 rfl Tryz.sizeOf73 rfl (by first | exact Nat.zero_add _ | rfl)) ?_
  refine s_val rfl (v_fieldAddr rfl Tryz.underlying73 rfl Tryz.sizeOf3 rfl (by first | exact Nat.zero_add _ | rfl)) ?_
  refine s_do0 (d_store Tryz.sizeOf3 rfl rfl rfl (Nat.le_of_ble_eq_true rfl) SetL.eq) ?_
  rintro _ _ rfl
  refine x_nil (n_then (x_seq (x_region (s_val rfl (v_move rfl) (s_val rfl (v_assign rfl) (s_val rfl (v_assign rfl) (s_val rfl (v_assign rfl) (x_nil (n_then (x_ret (x_done (.inl rfl) (.cons (r_tmp rfl) (.cons (r_tmp rfl) (.cons (r_tmp rfl) .nil))) ?_)))))))))))
  exact ⟨_, ⟨rfl, rfl⟩, inferInstance⟩
theorem rqNext_spec (W0 : World) (R : List HP) (b qv qs qm d : Nat) (fr : List Frm) (pg : List Pl) (h : Pgs pg) (hF : Frs fr) (s : QS) (hs : QOk s) :
    Spec Tryz.prog W0 189 [.pointer (some ⟨b, 0, none⟩), .pointer (some ⟨qv, 0, none⟩)] (pt b (rqO s) :: rvwW qv qs qm d fr pg R)
      (fun v B => v = .tuple #[.int .i64 ((nxR fr pg s).1 : Nat), .bool (nxR fr pg s).2.1, .int .i64 (nxR fr pg s).2.2] ∧ B = pt b (rqO (nxS fr pg s)) :: rvwW qv qs qm d fr pg R) := by
  obtain ⟨⟨sd, sa, su, sn⟩, on, br, last, put⟩ := s
  by_cases hu : (on && decide (br = 0)) = true
  · have hu' : on = true ∧ br = 0 := by simpa using hu
    obtain ⟨rfl, rfl⟩ := hu'
    have hN := hs.n rfl
    obtain ⟨n, rfl⟩ : ∃ n : Nat, sn = (n : Int) := ⟨sn.toNat, by dsimp only at hN; omega⟩
    have hn : n = 2 ∨ n = 4 ∨ n = 8 := by dsimp only at hN; omega
    have ha : sa ≤ 1000 := hs.av rfl
    have hl : last < 65536 := hs.last
    have hm := Nat.mod_lt last (show 0 < n by omega)
    have hA : hdA sa last n = sa + 4 + 4 * (last % n) := rfl
    have hw1 := wrdW_lt hF pg sa
    have hw2 := wrdW_lt hF pg (hdA sa last n)
    obtain ⟨r, hr⟩ : ∃ r, hdR fr pg sa last n = r := ⟨_, rfl⟩
    have hv := hr
    unfold hdR at hv
    have hwt : wtN last (wrdW fr pg sa) = (wrdW fr pg sa % 65536 + 65536 - last) % 65536 := rfl
    obtain ⟨e1, e2⟩ : nxR fr pg ⟨⟨sd, sa, su, n⟩, true, 0, last, put⟩ = (if r.2.2 ≠ 0 then (0, false, r.2.2) else r) ∧ nxS fr pg ⟨⟨sd, sa, su, n⟩, true, 0, last, put⟩ = (if r.2.2 ≠ 0 then ⟨⟨sd, sa, su, n⟩, true, r.2.2, last, put⟩ else if r.2.1 then ⟨⟨sd, sa, su, n⟩, true, 0, (last + 1) % 65536, put⟩ else ⟨⟨sd, sa, su, n⟩, true, 0, last, put⟩) := by
      subst hr; exact ⟨rfl, rfl⟩
    refine spec_body Tryz.func189 Tryz.ntmps189 rfl rfl ?_
    refine x_seq (x_region (s_val rfl (v_assign rfl) (s_val rfl (v_assign rfl) (s_val rfl (v_assign rfl) (x_nil (n_then (x_seq (x_seq (x_region (s_val rfl (v_move rfl) (s_val rfl (v_nilCheck rfl) ?_)))))))))))
    refine s_val rfl (v_fieldAddr rfl Tryz.underlying76 rfl Tryz.sizeOf73 rfl (by first | exact Nat.zero_add _ | rfl)) ?_
    refine s_val rfl (v_fieldAddr rfl Tryz.underlying73 rfl Tryz.sizeOf4 rfl (by first | exact Nat.zero_add _ | rfl)) ?_
    refine s_val rfl (v_load Tryz.isAgg4 rfl (cell_own rfl)) ?_
    refine s_val rfl (v_not rfl) (s_val rfl (v_move rfl) ?_)
    refine s_or rfl rfl rfl ?_ ?_
    · intro g1_7
      exact absurd rfl g1_7
    · intro g1_7
      refine s_val rfl (v_move rfl) (s_yes rfl rfl (s_val rfl (v_nilCheck rfl) (s_yes rfl rfl ?_)))
      refine s_val rfl (v_fieldAddr rfl Tryz.underlying76 rfl Tryz.sizeOf73 rfl (by first | exact Nat.zero_add _ | rfl)) ?_
      refine s_yes rfl rfl ?_
      refine s_val rfl (v_fieldAddr rfl Tryz.underlying73 rfl Tryz.sizeOf3 rfl (by first | exact Nat.zero_add _ | rfl)) ?_
      refine s_yes rfl rfl (s_val rfl (v_load Tryz.isAgg3 rfl (cell_own rfl)) ?_)
      refine s_yes rfl rfl (s_val rfl (v_neq rfl rfl) (s_val rfl (v_pick_f rfl rfl) (x_nil (n_then ?_))))
      refine x_if rfl ?_ ?_
      · intro c1
        exact absurd rfl c1
      · intro c1
        refine x_skip (n_then (x_seq (x_region (s_val rfl (v_move rfl) (s_val rfl (v_nilCheck rfl) ?_)))))
        refine s_val rfl (v_fieldAddr rfl Tryz.underlying76 rfl Tryz.sizeOf73 rfl (by first | exact Nat.zero_add _ | rfl)) ?_
        refine s_val rfl (v_fieldAddr rfl Tryz.underlying73 rfl Tryz.sizeOf71 rfl (by first | exact Nat.zero_add _ | rfl)) ?_
        refine s_val rfl (v_fieldAddr rfl Tryz.underlying71 rfl Tryz.sizeOf3 rfl (by first | exact Nat.zero_add _ | rfl)) ?_
        refine s_val rfl (v_load Tryz.isAgg3 rfl (cell_own rfl)) ?_
        refine s_val rfl (v_assign rfl) (x_nil (n_then (x_seq (x_region (s_val rfl (v_move rfl) (s_val rfl (v_move rfl) (s_val rfl (v_nilCheck rfl) ?_)))))))
        refine s_val rfl (v_fieldAddr rfl Tryz.underlying76 rfl Tryz.sizeOf73 rfl (by first | exact Nat.zero_add _ | rfl)) ?_
        refine s_val rfl (v_fieldAddr rfl Tryz.underlying73 rfl Tryz.sizeOf71 rfl (by first | exact Nat.zero_add _ | rfl)) ?_
        refine s_val rfl (v_fieldAddr rfl Tryz.underlying71 rfl Tryz.sizeOf47 rfl (by first | exact Nat.zero_add _ | rfl)) ?_
        refine s_val rfl (v_load Tryz.isAgg47 rfl (cell_own rfl)) ?_
        refine s_do rfl (d_call3 Tryz.call252 rfl (rvWord_spec W0 _ qv qs qm d fr pg h hF sa (by omega))) ?_
        rintro _ B_ ⟨rfl, hB_⟩
        obtain rfl := hB_.symm
        rw [show (if ownB fr.length pg sa 4 then leN (rdL fr pg sa 4) else 0 : Nat) = wrdW fr pg sa from rfl]
        refine s_val rfl (v_move rfl) (s_val rfl (v_extract rfl rfl) (s_val rfl (v_extract rfl rfl) (s_val rfl (v_assign rfl) (s_val rfl (v_assign rfl) (x_nil (n_then (x_seq (x_seq (x_region (s_val rfl (v_move rfl) (s_val rfl (v_not rfl) (x_nil (n_then ?_)))))))))))))
        refine x_if rfl ?_ ?_
        · intro c5
          rw [if_neg c5] at hv
          refine x_seq (x_region (s_val rfl (v_move rfl) (s_do rfl (d_call1 Tryz.call253 rfl (rqBreaks_spec W0 _ b ⟨⟨sd, sa, su, n⟩, true, 0, last, put⟩ 5)) ?_)))
          rintro _ B_ ⟨rfl, hB_⟩
          obtain rfl := hB_.symm
          refine s_val rfl (v_extract rfl rfl) (s_val rfl (v_extract rfl rfl) (s_val rfl (v_extract rfl rfl) (s_val rfl (v_assign rfl) (s_val rfl (v_assign rfl) (s_val rfl (v_assign rfl) (x_nil (n_then (x_ret (r_then (x_done (.inl rfl) (.cons (r_tmp rfl) (.cons (r_tmp rfl) (.cons (r_tmp rfl) .nil))) ?_))))))))))
          subst hv
          rw [show nxR fr pg ⟨⟨sd, sa, su, n⟩, true, 0, last, put⟩ = (0, false, 5) from e1, show nxS fr pg ⟨⟨sd, sa, su, n⟩, true, 0, last, put⟩ = ⟨⟨sd, sa, su, n⟩, true, 5, last, put⟩ from e2]
          exact ⟨_, ⟨rfl, rfl⟩, inferInstance⟩
        · intro c5
          have o1 := Decidable.not_not.1 c5
          rw [if_pos o1] at hv
          refine x_skip (n_then (x_seq (x_region (s_val rfl (v_move rfl) ?_))))
          refine s_val rfl (v_rem rfl rfl (by decide) (tmodN (wrdW fr pg sa) 65536)) ?_
          refine s_val rfl (v_conv Tryz.underlying47 Tryz.underlying3 rfl (w64 (by omega))) ?_
          refine s_val rfl (v_add rfl rfl (w64 (by omega))) ?_
          refine s_val rfl (v_move rfl) (s_val rfl (v_nilCheck rfl) ?_)
          refine s_val rfl (v_fieldAddr rfl Tryz.underlying76 rfl Tryz.sizeOf73 rfl (by first | exact Nat.zero_add _ | rfl)) ?_
          refine s_val rfl (v_fieldAddr rfl Tryz.underlying73 rfl Tryz.sizeOf3 rfl (by first | exact Nat.zero_add _ | rfl)) ?_
          refine s_val rfl (v_load Tryz.isAgg3 rfl (cell_own rfl)) ?_
          refine s_val rfl (v_sub rfl rfl (by rw [w64 (by omega)]; omega : IntKind.wrap .i64 (((wrdW fr pg sa % 65536 : Nat) : Int) + 65536 - (last : Int)) = ((wrdW fr pg sa % 65536 + 65536 - last : Nat) : Int))) ?_
          refine s_val rfl (v_rem rfl rfl (by decide) (tmodN (wrdW fr pg sa % 65536 + 65536 - last) 65536)) ?_
          refine s_val rfl (v_assign rfl) (x_nil (n_then (x_seq (x_seq ?_))))
          rw [← hwt]
          generalize wtN last (wrdW fr pg sa) = wt at hv ⊢
          refine x_region (s_val rfl (v_move rfl) (s_val rfl (v_move rfl) (s_val rfl (v_gtr rfl rfl) (x_nil (n_then ?_)))))
          refine x_if rfl ?_ ?_
          · intro c8
            try dsimp only at c8
            rw [if_pos (by omega)] at hv
            refine x_seq (x_region (s_val rfl (v_move rfl) (s_do rfl (d_call1 Tryz.call253 rfl (rqBreaks_spec W0 _ b ⟨⟨sd, sa, su, n⟩, true, 0, last, put⟩ 7)) ?_)))
            rintro _ B_ ⟨rfl, hB_⟩
            obtain rfl := hB_.symm
            refine s_val rfl (v_extract rfl rfl) (s_val rfl (v_extract rfl rfl) (s_val rfl (v_extract rfl rfl) (s_val rfl (v_assign rfl) (s_val rfl (v_assign rfl) (s_val rfl (v_assign rfl) (x_nil (n_then (x_ret (r_then (x_done (.inl rfl) (.cons (r_tmp rfl) (.cons (r_tmp rfl) (.cons (r_tmp rfl) .nil))) ?_))))))))))
            subst hv
            rw [show nxR fr pg ⟨⟨sd, sa, su, n⟩, true, 0, last, put⟩ = (0, false, 7) from e1, show nxS fr pg ⟨⟨sd, sa, su, n⟩, true, 0, last, put⟩ = ⟨⟨sd, sa, su, n⟩, true, 7, last, put⟩ from e2]
            exact ⟨_, ⟨rfl, rfl⟩, inferInstance⟩
          · intro c8
            try dsimp only at c8
            rw [if_neg (by omega)] at hv
            refine x_skip (n_then (x_seq (x_seq (x_region (s_val rfl (v_move rfl) (s_val rfl (v_eql rfl rfl) (x_nil (n_then ?_))))))))
            refine x_if rfl ?_ ?_
            · intro c10
              try dsimp only at c10
              rw [if_pos (by omega)] at hv
              refine x_seq (x_region (s_val rfl (v_assign rfl) (s_val rfl (v_assign rfl) (s_val rfl (v_assign rfl) (x_nil (n_then (x_ret (r_then (x_done (.inl rfl) (.cons (r_tmp rfl) (.cons (r_tmp rfl) (.cons (r_tmp rfl) .nil))) ?_)))))))))
              subst hv
              rw [show nxR fr pg ⟨⟨sd, sa, su, n⟩, true, 0, last, put⟩ = (0, false, 0) from e1, show nxS fr pg ⟨⟨sd, sa, su, n⟩, true, 0, last, put⟩ = ⟨⟨sd, sa, su, n⟩, true, 0, last, put⟩ from e2]
              exact ⟨_, ⟨rfl, rfl⟩, inferInstance⟩
            · intro c10
              try dsimp only at c10
              rw [if_neg (by omega)] at hv
              refine x_skip (n_then (x_seq ?_))
              refine x_draw [(b, 0, _)] 24 mixed rfl (sc_own sc_end) (fun hS => ?_)
              refine d_take 0 rfl rfl (by kernel_rfl) (by kernel_rfl) (by kernel_rfl) rfl hS (v_move rfl) ?_
              refine d_take 1 rfl rfl (by kernel_rfl) (by kernel_rfl) (by kernel_rfl) rfl hS (v_move rfl) ?_
              refine d_take 2 rfl rfl (by kernel_rfl) (by kernel_rfl) (by kernel_rfl) rfl hS (v_nilCheck rfl) ?_
              refine d_take 3 rfl rfl (by kernel_rfl) (by kernel_rfl) (by kernel_rfl) rfl hS (v_fieldAddr rfl Tryz.underlying76 rfl Tryz.sizeOf73 rfl (by first | exact Nat.zero_add _ | rfl)) ?_
              refine d_take 4 rfl rfl (by kernel_rfl) (by kernel_rfl) (by kernel_rfl) rfl hS (v_fieldAddr rfl Tryz.underlying73 rfl Tryz.sizeOf71 rfl (by first | exact Nat.zero_add _ | rfl)) ?_
              refine d_take 5 rfl rfl (by kernel_rfl) (by kernel_rfl) (by kernel_rfl) rfl hS (v_fieldAddr rfl Tryz.underlying71 rfl Tryz.sizeOf47 rfl (by first | exact Nat.zero_add _ | rfl)) ?_
              refine d_take 6 rfl rfl (by kernel_rfl) (by kernel_rfl) (by kernel_rfl) rfl hS (v_load Tryz.isAgg47 rfl (cell_sc0 (k := 0) rfl rfl)) ?_
              refine d_take 7 rfl rfl (by kernel_rfl) (by kernel_rfl) (by kernel_rfl) rfl hS (v_add rfl rfl (by rw [w32u (by omega)]; omega : IntKind.wrap .u32 ((sa : Int) + 4) = ((sa + 4 : Nat) : Int))) ?_
              refine d_take 8 rfl rfl (by kernel_rfl) (by kernel_rfl) (by kernel_rfl) rfl hS (v_move rfl) ?_
              refine d_take 9 rfl rfl (by kernel_rfl) (by kernel_rfl) (by kernel_rfl) rfl hS (v_nilCheck rfl) ?_
              refine d_take 10 rfl rfl (by kernel_rfl) (by kernel_rfl) (by kernel_rfl) rfl hS (v_fieldAddr rfl Tryz.underlying76 rfl Tryz.sizeOf73 rfl (by first | exact Nat.zero_add _ | rfl)) ?_
              refine d_take 11 rfl rfl (by kernel_rfl) (by kernel_rfl) (by kernel_rfl) rfl hS (v_fieldAddr rfl Tryz.underlying73 rfl Tryz.sizeOf3 rfl (by first | exact Nat.zero_add _ | rfl)) ?_
              refine d_take 12 rfl rfl (by kernel_rfl) (by kernel_rfl) (by kernel_rfl) rfl hS (v_load Tryz.isAgg3 rfl (cell_sc0 (k := 0) rfl rfl)) ?_
              refine d_take 13 rfl rfl (by kernel_rfl) (by kernel_rfl) (by kernel_rfl) rfl hS (v_move rfl) ?_
              refine d_take 14 rfl rfl (by kernel_rfl) (by kernel_rfl) (by kernel_rfl) rfl hS (v_rem rfl rfl (show ((n : Nat) : Int) ≠ 0 by omega) (tmodN last n)) ?_
              refine d_take 15 rfl rfl (by kernel_rfl) (by kernel_rfl) (by kernel_rfl) rfl hS (v_conv Tryz.underlying3 Tryz.underlying47 rfl (w32u (by omega))) ?_
              refine d_take 16 rfl rfl (by kernel_rfl) (by kernel_rfl) (by kernel_rfl) rfl hS (v_mul rfl rfl (by rw [w32u (by omega)]; omega : IntKind.wrap .u32 (4 * ((last % n : Nat) : Int)) = ((4 * (last % n) : Nat) : Int))) ?_
              refine d_take 17 rfl rfl (by kernel_rfl) (by kernel_rfl) (by kernel_rfl) rfl hS (v_add rfl rfl (by rw [w32u (by omega), hA]; omega : IntKind.wrap .u32 (((sa + 4 : Nat) : Int) + ((4 * (last % n) : Nat) : Int)) = ((hdA sa last n : Nat) : Int))) ?_
              refine d_one 18 (by kernel_rfl) rfl rfl (d_call3 Tryz.call252 rfl (rvWord_spec W0 _ qv qs qm d fr pg h hF (hdA sa last n) (by omega))) rfl ?_; clear hS
              rintro _ B_ ⟨rfl, hB_⟩
              obtain rfl := hB_.symm
              rw [show (if ownB fr.length pg (hdA sa last n) 4 then leN (rdL fr pg (hdA sa last n) 4) else 0 : Nat) = wrdW fr pg (hdA sa last n) from rfl]
              refine ⟨(sc_own sc_end), fun hS => ?_⟩
              refine d_take 19 rfl rfl (by kernel_rfl) (by kernel_rfl) (by kernel_rfl) rfl hS (v_move rfl) ?_
              refine d_take 20 rfl rfl (by kernel_rfl) (by kernel_rfl) (by kernel_rfl) rfl hS (v_extract rfl rfl) ?_
              refine d_take 21 rfl rfl (by kernel_rfl) (by kernel_rfl) (by kernel_rfl) rfl hS (v_extract rfl rfl) ?_
              refine d_take 22 rfl rfl (by kernel_rfl) (by kernel_rfl) (by kernel_rfl) rfl hS (v_assign rfl) ?_
              refine d_take 23 rfl rfl (by kernel_rfl) (by kernel_rfl) (by kernel_rfl) rfl hS (v_assign rfl) ?_
              refine d_done (by kernel_rfl) ?_; clear hS
              refine n_then (x_seq (x_seq (x_region (s_val rfl (v_move rfl) (s_val rfl (v_not rfl) (x_nil (n_then ?_)))))))
              refine x_if rfl ?_ ?_
              · intro c13
                rw [if_neg c13] at hv
                refine x_seq (x_region (s_val rfl (v_move rfl) (s_do rfl (d_call1 Tryz.call253 rfl (rqBreaks_spec W0 _ b ⟨⟨sd, sa, su, n⟩, true, 0, last, put⟩ 5)) ?_)))
                rintro _ B_ ⟨rfl, hB_⟩
                obtain rfl := hB_.symm
                refine s_val rfl (v_extract rfl rfl) (s_val rfl (v_extract rfl rfl) (s_val rfl (v_extract rfl rfl) (s_val rfl (v_assign rfl) (s_val rfl (v_assign rfl) (s_val rfl (v_assign rfl) (x_nil (n_then (x_ret (r_then (x_done (.inl rfl) (.cons (r_tmp rfl) (.cons (r_tmp rfl) (.cons (r_tmp rfl) .nil))) ?_))))))))))
                subst hv
                rw [show nxR fr pg ⟨⟨sd, sa, su, n⟩, true, 0, last, put⟩ = (0, false, 5) from e1, show nxS fr pg ⟨⟨sd, sa, su, n⟩, true, 0, last, put⟩ = ⟨⟨sd, sa, su, n⟩, true, 5, last, put⟩ from e2]
                exact ⟨_, ⟨rfl, rfl⟩, inferInstance⟩
              · intro c13
                have o2 := Decidable.not_not.1 c13
                rw [if_pos o2] at hv
                refine x_skip (n_then (x_seq (x_seq (x_region (s_val rfl (v_move rfl) (s_val rfl (v_move rfl) ?_))))))
                refine s_val rfl (v_conv Tryz.underlying3 Tryz.underlying47 rfl (show IntKind.wrap .u32 (n : Int) = (n : Int) from w32u (by omega))) ?_
                refine s_val rfl (v_geq rfl rfl) (x_nil (n_then ?_))
                refine x_if rfl ?_ ?_
                · intro c15
                  try dsimp only at c15
                  rw [if_pos (by omega)] at hv
                  refine x_seq (x_region (s_val rfl (v_move rfl) (s_do rfl (d_call1 Tryz.call253 rfl (rqBreaks_spec W0 _ b ⟨⟨sd, sa, su, n⟩, true, 0, last, put⟩ 1)) ?_)))
                  rintro _ B_ ⟨rfl, hB_⟩
                  obtain rfl := hB_.symm
                  refine s_val rfl (v_extract rfl rfl) (s_val rfl (v_extract rfl rfl) (s_val rfl (v_extract rfl rfl) (s_val rfl (v_assign rfl) (s_val rfl (v_assign rfl) (s_val rfl (v_assign rfl) (x_nil (n_then (x_ret (r_then (x_done (.inl rfl) (.cons (r_tmp rfl) (.cons (r_tmp rfl) (.cons (r_tmp rfl) .nil))) ?_))))))))))
                  subst hv
                  rw [show nxR fr pg ⟨⟨sd, sa, su, n⟩, true, 0, last, put⟩ = (0, false, 1) from e1, show nxS fr pg ⟨⟨sd, sa, su, n⟩, true, 0, last, put⟩ = ⟨⟨sd, sa, su, n⟩, true, 1, last, put⟩ from e2]
                  exact ⟨_, ⟨rfl, rfl⟩, inferInstance⟩
                · intro c15
                  try dsimp only at c15
                  rw [if_neg (by omega)] at hv
                  refine x_skip (n_then (x_seq (x_region (s_val rfl (v_move rfl) (s_val rfl (v_move rfl) (s_val rfl (v_nilCheck rfl) ?_))))))
                  refine s_val rfl (v_fieldAddr rfl Tryz.underlying76 rfl Tryz.sizeOf73 rfl (by first | exact Nat.zero_add _ | rfl)) ?_
                  refine s_val rfl (v_fieldAddr rfl Tryz.underlying73 rfl Tryz.sizeOf3 rfl (by first | exact Nat.zero_add _ | rfl)) ?_
                  refine s_val rfl (v_load Tryz.isAgg3 rfl (cell_own rfl)) ?_
                  refine s_val rfl (v_add rfl rfl (by rw [w64 (by omega)]; omega : IntKind.wrap .i64 ((last : Int) + 1) = ((last + 1 : Nat) : Int))) ?_
                  refine s_val rfl (v_rem rfl rfl (by decide) (tmodN (last + 1) 65536)) ?_
                  refine s_val rfl (v_nilCheck rfl) ?_
                  refine s_val rfl (v_fieldAddr rfl Tryz.underlying76 rfl Tryz.sizeOf73 rfl (by first | exact Nat.zero_add _ | rfl)) ?_
                  refine s_val rfl (v_fieldAddr rfl Tryz.underlying73 rfl Tryz.sizeOf3 rfl (by first | exact Nat.zero_add _ | rfl)) ?_
                  refine s_do0 (d_store Tryz.sizeOf3 rfl rfl rfl (Nat.le_of_ble_eq_true rfl) SetL.eq) ?_
                  rintro _ _ rfl
                  refine x_nil (n_then (x_seq (x_region (s_val rfl (v_move rfl) ?_))))
                  refine s_val rfl (v_conv Tryz.underlying47 Tryz.underlying3 rfl (w64 (by omega))) ?_
                  refine s_val rfl (v_assign rfl) (s_val rfl (v_assign rfl) (s_val rfl (v_assign rfl) (x_nil (n_then (x_ret (x_done (.inl rfl) (.cons (r_tmp rfl) (.cons (r_tmp rfl) (.cons (r_tmp rfl) .nil))) ?_))))))
                  subst hv
                  rw [show nxR fr pg ⟨⟨sd, sa, su, n⟩, true, 0, last, put⟩ = (wrdW fr pg (hdA sa last n), true, 0) from e1, show nxS fr pg ⟨⟨sd, sa, su, n⟩, true, 0, last, put⟩ = ⟨⟨sd, sa, su, n⟩, true, 0, (last + 1) % 65536, put⟩ from e2]
                  exact ⟨_, ⟨rfl, rfl⟩, inferInstance⟩
  · have hu' : ¬ (on = true ∧ br = 0) := by simpa using hu
    simp only [nxR, nxS, if_neg hu]
    refine spec_body Tryz.func189 Tryz.ntmps189 rfl rfl ?_
    refine x_seq (x_region (s_val rfl (v_assign rfl) (s_val rfl (v_assign rfl) (s_val rfl (v_assign rfl) (x_nil (n_then (x_seq (x_seq (x_region (s_val rfl (v_move rfl) (s_val rfl (v_nilCheck rfl) ?_)))))))))))
    refine s_val rfl (v_fieldAddr rfl Tryz.underlying76 rfl Tryz.sizeOf73 rfl (by first | exact Nat.zero_add _ | rfl)) ?_
    refine s_val rfl (v_fieldAddr rfl Tryz.underlying73 rfl Tryz.sizeOf4 rfl (by first | exact Nat.zero_add _ | rfl)) ?_
    refine s_val rfl (v_load Tryz.isAgg4 rfl (cell_own rfl)) ?_
    refine s_val rfl (v_not rfl) (s_val rfl (v_move rfl) ?_)
    refine s_or rfl rfl rfl ?_ ?_
    · intro g1_7
      refine s_no rfl rfl rfl rfl (s_no rfl rfl rfl rfl (s_no rfl rfl rfl rfl (s_no rfl rfl rfl rfl (s_no rfl rfl rfl rfl (s_val rfl (v_pick_t rfl rfl) (x_nil (n_then (x_ift rfl (x_seq ?_)))))))))
      refine x_draw [(b, 0, _)] 8 mixed rfl (sc_own sc_end) (fun hS => ?_)
      refine d_take 0 rfl rfl (by kernel_rfl) (by kernel_rfl) (by kernel_rfl) rfl hS (v_move rfl) ?_
      refine d_take 1 rfl rfl (by kernel_rfl) (by kernel_rfl) (by kernel_rfl) rfl hS (v_nilCheck rfl) ?_
      refine d_take 2 rfl rfl (by kernel_rfl) (by kernel_rfl) (by kernel_rfl) rfl hS (v_fieldAddr rfl Tryz.underlying76 rfl Tryz.sizeOf73 rfl (by first | exact Nat.zero_add _ | rfl)) ?_
      refine d_take 3 rfl rfl (by kernel_rfl) (by kernel_rfl) (by kernel_rfl) rfl hS (v_fieldAddr rfl Tryz.underlying73 rfl Tryz.sizeOf3 rfl (by first | exact Nat.zero_add _ | rfl)) ?_
      refine d_take 4 rfl rfl (by kernel_rfl) (by kernel_rfl) (by kernel_rfl) rfl hS (v_load Tryz.isAgg3 rfl (cell_sc0 (k := 0) rfl rfl)) ?_
      refine d_take 5 rfl rfl (by kernel_rfl) (by kernel_rfl) (by kernel_rfl) rfl hS (v_assign rfl) ?_
      refine d_take 6 rfl rfl (by kernel_rfl) (by kernel_rfl) (by kernel_rfl) rfl hS (v_assign rfl) ?_
      refine d_take 7 rfl rfl (by kernel_rfl) (by kernel_rfl) (by kernel_rfl) rfl hS (v_assign rfl) ?_
      refine d_done (by kernel_rfl) ?_; clear hS
      refine n_then (x_ret (r_then (x_done (.inl rfl) (.cons (r_tmp rfl) (.cons (r_tmp rfl) (.cons (r_tmp rfl) .nil))) ?_)))
      exact ⟨_, ⟨rfl, rfl⟩, inferInstance⟩
    · intro g1_7
      refine s_val rfl (v_move rfl) (s_yes rfl rfl (s_val rfl (v_nilCheck rfl) (s_yes rfl rfl ?_)))
      refine s_val rfl (v_fieldAddr rfl Tryz.underlying76 rfl Tryz.sizeOf73 rfl (by first | exact Nat.zero_add _ | rfl)) ?_
      refine s_yes rfl rfl ?_
      refine s_val rfl (v_fieldAddr rfl Tryz.underlying73 rfl Tryz.sizeOf3 rfl (by first | exact Nat.zero_add _ | rfl)) ?_
      refine s_yes rfl rfl (s_val rfl (v_load Tryz.isAgg3 rfl (cell_own rfl)) ?_)
      refine s_yes rfl rfl (s_val rfl (v_neq rfl rfl) (s_val rfl (v_pick_f rfl rfl) (x_nil (n_then ?_))))
      refine x_if rfl ?_ ?_
      · intro c1
        refine x_seq ?_
        refine x_draw [(b, 0, _)] 8 mixed rfl (sc_own sc_end) (fun hS => ?_)
        refine d_take 0 rfl rfl (by kernel_rfl) (by kernel_rfl) (by kernel_rfl) rfl hS (v_move rfl) ?_
        refine d_take 1 rfl rfl (by kernel_rfl) (by kernel_rfl) (by kernel_rfl) rfl hS (v_nilCheck rfl) ?_
        refine d_take 2 rfl rfl (by kernel_rfl) (by kernel_rfl) (by kernel_rfl) rfl hS (v_fieldAddr rfl Tryz.underlying76 rfl Tryz.sizeOf73 rfl (by first | exact Nat.zero_add _ | rfl)) ?_
        refine d_take 3 rfl rfl (by kernel_rfl) (by kernel_rfl) (by kernel_rfl) rfl hS (v_fieldAddr rfl Tryz.underlying73 rfl Tryz.sizeOf3 rfl (by first | exact Nat.zero_add _ | rfl)) ?_
        refine d_take 4 rfl rfl (by kernel_rfl) (by kernel_rfl) (by kernel_rfl) rfl hS (v_load Tryz.isAgg3 rfl (cell_sc0 (k := 0) rfl rfl)) ?_
        refine d_take 5 rfl rfl (by kernel_rfl) (by kernel_rfl) (by kernel_rfl) rfl hS (v_assign rfl) ?_
        refine d_take 6 rfl rfl (by kernel_rfl) (by kernel_rfl) (by kernel_rfl) rfl hS (v_assign rfl) ?_
        refine d_take 7 rfl rfl (by kernel_rfl) (by kernel_rfl) (by kernel_rfl) rfl hS (v_assign rfl) ?_
        refine d_done (by kernel_rfl) ?_; clear hS
        refine n_then (x_ret (r_then (x_done (.inl rfl) (.cons (r_tmp rfl) (.cons (r_tmp rfl) (.cons (r_tmp rfl) .nil))) ?_)))
        exact ⟨_, ⟨rfl, rfl⟩, inferInstance⟩
      · intro c1
        simp_all
theorem rqTake_spec (W0 : World) (R : List HP) (b qv qs qm d : Nat) (fr : List Frm) (pg : List Pl) (h : Pgs pg) (hF : Frs fr) (s : QS) (hs : QOk s) (hr : s.r.ok) :
    Spec Tryz.prog W0 108 [.pointer (some ⟨b, 0, none⟩), .pointer (some ⟨qv, 0, none⟩)] (pt b (rqO s) :: rvwW qv qs qm d fr pg R)
      (fun v B => ∃ a c, v = .tuple #[.int .i64 ((tkR fr pg s).1 : Nat), .slice a (tkR fr pg s).2.1.length c, .bool (tkR fr pg s).2.2.1, .int .i64 (tkR fr pg s).2.2.2] ∧
        B = osl 99 4 (.slice a (tkR fr pg s).2.1.length c) ((tkR fr pg s).2.1.flatMap dsV) :: pt b (rqO (tkS fr pg s)) :: rvwW qv qs qm d fr pg R) := by
  obtain ⟨x, hx⟩ : ∃ x, nxR fr pg s = x := ⟨_, rfl⟩
  obtain ⟨y, hy⟩ : ∃ y, wkAll fr pg s.r x.1 = y := ⟨_, rfl⟩
  have hq : tkL fr pg s = y := by rw [tkL, hx, hy]
  have hsr := nxS_r fr pg s
  obtain ⟨z, hz⟩ : ∃ z, nxS fr pg s = z := ⟨_, rfl⟩
  rw [hz] at hsr
  simp only [tkR, tkS, hx, hq, hz]
  refine spec_body Tryz.func108 Tryz.ntmps108 rfl rfl ?_
  refine x_seq (x_region (s_val rfl (v_assign rfl) (s_val rfl (v_assign rfl) (s_val rfl (v_assign rfl) (s_val rfl (v_assign rfl) (x_nil (n_then (x_seq (x_region (s_val rfl (v_move rfl) (s_val rfl (v_move rfl) (s_do rfl (d_call4 Tryz.call189 rfl (rqNext_spec W0 _ b qv qs qm d fr pg h hF s hs)) ?_))))))))))))
  rintro _ B_ ⟨rfl, hB_⟩
  obtain rfl := hB_.symm
  rw [hx, hz]
  refine s_val rfl (v_move rfl) (s_val rfl (v_extract rfl rfl) (s_val rfl (v_extract rfl rfl) (s_val rfl (v_extract rfl rfl) (s_val rfl (v_assign rfl) (s_val rfl (v_assign rfl) (s_val rfl (v_assign rfl) (x_nil (n_then (x_seq (x_seq (x_region (s_val rfl (v_move rfl) (s_val rfl (v_not rfl) (x_nil (n_then ?_)))))))))))))))
  refine x_if rfl ?_ ?_
  · intro c2
    refine x_seq (x_region (s_val rfl (v_move rfl) (s_val rfl (v_assign rfl) (s_val rfl (v_assign rfl) (s_val rfl (v_assign rfl) (s_val rfl (v_assign rfl) (x_nil (n_then (x_ret (r_then (x_done (.inl rfl) (.cons (r_tmp rfl) (.cons (r_tmp rfl) (.cons (r_tmp rfl) (.cons (r_tmp rfl) .nil)))) ?_)))))))))))
    rw [if_neg c2, if_neg c2]
    exact ⟨_, ⟨none, 0, rfl, rfl⟩, ent_osl_nil⟩
  · intro c2
    have c2' : x.2.1 = true := Decidable.not_not.1 c2
    rw [if_pos c2', if_pos c2']
    refine x_skip (n_then (x_seq (x_region (s_val rfl (v_move rfl) (s_val rfl (v_move rfl) (s_val rfl (v_nilCheck rfl) ?_))))))
    refine s_val rfl (v_fieldAddr rfl Tryz.underlying76 rfl Tryz.sizeOf73 rfl (by first | exact Nat.zero_add _ | rfl)) ?_
    refine s_val rfl (v_fieldAddr rfl Tryz.underlying73 rfl Tryz.sizeOf71 rfl (by first | exact Nat.zero_add _ | rfl)) ?_
    refine s_val rfl (v_loadPart Tryz.isAgg71 Tryz.sizeOf71 rfl TakeL.eq rfl) ?_
    refine s_val rfl (v_move rfl) ?_
    refine s_do rfl (d_call3 Tryz.call190 rfl (rcWalk_spec W0 _ qv qs qm d fr pg h hF z.r (by rw [hsr]; exact hr) x.1)) ?_
    rintro _ B_ ⟨a, c, rfl, hB_⟩
    obtain rfl := hB_.symm
    rw [show wkAll fr pg z.r x.1 = y by rw [hsr, hy]]
    refine s_val rfl (v_move rfl) (s_val rfl (v_extract rfl rfl) (s_val rfl (v_extract rfl rfl) (s_val rfl (v_assign rfl) (s_val rfl (v_assign rfl) (x_nil (n_then (x_seq (x_seq (x_region (s_val rfl (v_move rfl) (s_val rfl (v_neq rfl rfl) (x_nil (n_then ?_)))))))))))))
    refine x_if rfl ?_ ?_
    · intro c5
      rw [if_pos c5, if_pos c5]
      refine x_seq (x_region (s_val rfl (v_move rfl) (s_val rfl (v_move rfl) (s_val rfl (v_nilCheck rfl) ?_))))
      refine s_val rfl (v_fieldAddr rfl Tryz.underlying76 rfl Tryz.sizeOf73 rfl (by first | exact Nat.zero_add _ | rfl)) ?_
      refine s_val rfl (v_fieldAddr rfl Tryz.underlying73 rfl Tryz.sizeOf3 rfl (by first | exact Nat.zero_add _ | rfl)) ?_
      refine s_do0 (d_store Tryz.sizeOf3 rfl rfl rfl (Nat.le_of_ble_eq_true rfl) SetL.eq) ?_
      rintro _ _ rfl
      refine x_nil (n_then (x_seq (x_region (s_val rfl (v_move rfl) (s_val rfl (v_assign rfl) (s_val rfl (v_assign rfl) (s_val rfl (v_assign rfl) (s_val rfl (v_assign rfl) (x_nil (n_then (x_ret (r_then (x_done (.inl rfl) (.cons (r_tmp rfl) (.cons (r_tmp rfl) (.cons (r_tmp rfl) (.cons (r_tmp rfl) .nil)))) ?_)))))))))))))
      exact ⟨_, ⟨none, 0, rfl, rfl⟩, ent_osl_nil⟩
    · intro c5
      rw [if_neg c5, if_neg c5]
      refine x_skip (n_then (x_seq (x_region (s_val rfl (v_move rfl) (s_val rfl (v_move rfl) (s_val rfl (v_assign rfl) (s_val rfl (v_assign rfl) (s_val rfl (v_assign rfl) (s_val rfl (v_assign rfl) (x_nil (n_then (x_ret (x_done (.inl rfl) (.cons (r_tmp rfl) (.cons (r_tmp rfl) (.cons (r_tmp rfl) (.cons (r_tmp rfl) .nil)))) ?_)))))))))))))
      exact ⟨_, ⟨a, c, rfl, rfl⟩, inferInstance⟩
theorem rqDone_spec (W0 : World) (R : List HP) (b qv qs qm d : Nat) (fr : List Frm) (pg : List Pl) (h : Pgs pg) (hF : Frs fr) (hd : d < 4096) (s : QS) (hs : QOk s) (x y : Int) :
    Spec Tryz.prog W0 112 [.pointer (some ⟨b, 0, none⟩), .pointer (some ⟨qv, 0, none⟩), .int .i64 x, .int .i64 y] (pt b (rqO s) :: rvwW qv qs qm d fr pg R)
      (fun v B => v = .int .i64 (dnX fr pg d s (u32N x) (u32N y)).c ∧ B = pt b (rqO (dnX fr pg d s (u32N x) (u32N y)).s) :: rvwW qv qs qm (dnX fr pg d s (u32N x) (u32N y)).d (dnX fr pg d s (u32N x) (u32N y)).fr pg R) := by
  obtain ⟨⟨sd, sa, su, sn⟩, on, br, last, put⟩ := s
  by_cases hu : (on && decide (br = 0)) = true
  · have hu' : on = true ∧ br = 0 := by simpa using hu
    obtain ⟨rfl, rfl⟩ := hu'
    have hN := hs.n rfl
    obtain ⟨n, rfl⟩ : ∃ n : Nat, sn = (n : Int) := ⟨sn.toNat, by dsimp only at hN; omega⟩
    have hn : n = 2 ∨ n = 4 ∨ n = 8 := by dsimp only at hN; omega
    have ha : su ≤ 1000 := hs.us rfl
    have hp : put < 65536 := hs.put
    have hm := Nat.mod_lt put (show 0 < n by omega)
    have hx := u32N_lt x
    have hy := u32N_lt y
    have hA : dnA ⟨⟨sd, sa, su, n⟩, true, 0, last, put⟩ = su + 4 + 8 * (put % n) := rfl
    obtain ⟨hX1, hX2, hX3⟩ := dnX_cases fr pg d sd sa su n last put (u32N x) (u32N y)
    obtain ⟨d1, d2, d3⟩ := dnD_lt (fr := fr) (pg := pg) (s := ⟨⟨sd, sa, su, n⟩, true, 0, last, put⟩) (h := u32N x) (n := u32N y) hd
    obtain ⟨f1, l1⟩ := dnF1_ok hF pg ⟨⟨sd, sa, su, n⟩, true, 0, last, put⟩ (u32N x)
    obtain ⟨f2, l2⟩ := dnF2_ok hF pg ⟨⟨sd, sa, su, n⟩, true, 0, last, put⟩ (u32N x) (u32N y)
    refine spec_body Tryz.func112 Tryz.ntmps112 rfl rfl ?_
    refine x_seq (x_region (s_val rfl (v_assign rfl) (x_nil (n_then (x_seq (x_seq (x_region (s_val rfl (v_move rfl) (s_val rfl (v_nilCheck rfl) ?_)))))))))
    refine s_val rfl (v_fieldAddr rfl Tryz.underlying76 rfl Tryz.sizeOf73 rfl (by first | exact Nat.zero_add _ | rfl)) ?_
    refine s_val rfl (v_fieldAddr rfl Tryz.underlying73 rfl Tryz.sizeOf4 rfl (by first | exact Nat.zero_add _ | rfl)) ?_
    refine s_val rfl (v_load Tryz.isAgg4 rfl (cell_own rfl)) ?_
    refine s_val rfl (v_not rfl) (s_val rfl (v_move rfl) ?_)
    refine s_or rfl rfl rfl ?_ ?_
    · intro g1_7
      exact absurd rfl g1_7
    · intro g1_7
      refine s_val rfl (v_move rfl) (s_yes rfl rfl (s_val rfl (v_nilCheck rfl) (s_yes rfl rfl ?_)))
      refine s_val rfl (v_fieldAddr rfl Tryz.underlying76 rfl Tryz.sizeOf73 rfl (by first | exact Nat.zero_add _ | rfl)) ?_
      refine s_yes rfl rfl ?_
      refine s_val rfl (v_fieldAddr rfl Tryz.underlying73 rfl Tryz.sizeOf3 rfl (by first | exact Nat.zero_add _ | rfl)) ?_
      refine s_yes rfl rfl (s_val rfl (v_load Tryz.isAgg3 rfl (cell_own rfl)) ?_)
      refine s_yes rfl rfl (s_val rfl (v_neq rfl rfl) (s_val rfl (v_pick_f rfl rfl) (x_nil (n_then ?_))))
      refine x_if rfl ?_ ?_
      · intro c1
        exact absurd rfl c1
      · intro c1
        refine x_skip (n_then (x_seq ?_))
        refine x_draw [(b, 0, _)] 23 mixed rfl (sc_own sc_end) (fun hS => ?_)
        refine d_take 0 rfl rfl (by kernel_rfl) (by kernel_rfl) (by kernel_rfl) rfl hS (v_move rfl) ?_
        refine d_take 1 rfl rfl (by kernel_rfl) (by kernel_rfl) (by kernel_rfl) rfl hS (v_nilCheck rfl) ?_
        refine d_take 2 rfl rfl (by kernel_rfl) (by kernel_rfl) (by kernel_rfl) rfl hS (v_fieldAddr rfl Tryz.underlying76 rfl Tryz.sizeOf73 rfl (by first | exact Nat.zero_add _ | rfl)) ?_
        refine d_take 3 rfl rfl (by kernel_rfl) (by kernel_rfl) (by kernel_rfl) rfl hS (v_fieldAddr rfl Tryz.underlying73 rfl Tryz.sizeOf71 rfl (by first | exact Nat.zero_add _ | rfl)) ?_
        refine d_take 4 rfl rfl (by kernel_rfl) (by kernel_rfl) (by kernel_rfl) rfl hS (v_fieldAddr rfl Tryz.underlying71 rfl Tryz.sizeOf47 rfl (by first | exact Nat.zero_add _ | rfl)) ?_
        refine d_take 5 rfl rfl (by kernel_rfl) (by kernel_rfl) (by kernel_rfl) rfl hS (v_load Tryz.isAgg47 rfl (cell_sc0 (k := 0) rfl rfl)) ?_
        refine d_take 6 rfl rfl (by kernel_rfl) (by kernel_rfl) (by kernel_rfl) rfl hS (v_add rfl rfl (by rw [w32u (by omega)]; omega : IntKind.wrap .u32 ((su : Int) + 4) = ((su + 4 : Nat) : Int))) ?_
        refine d_take 7 rfl rfl (by kernel_rfl) (by kernel_rfl) (by kernel_rfl) rfl hS (v_move rfl) ?_
        refine d_take 8 rfl rfl (by kernel_rfl) (by kernel_rfl) (by kernel_rfl) rfl hS (v_nilCheck rfl) ?_
        refine d_take 9 rfl rfl (by kernel_rfl) (by kernel_rfl) (by kernel_rfl) rfl hS (v_fieldAddr rfl Tryz.underlying76 rfl Tryz.sizeOf73 rfl (by first | exact Nat.zero_add _ | rfl)) ?_
        refine d_take 10 rfl rfl (by kernel_rfl) (by kernel_rfl) (by kernel_rfl) rfl hS (v_fieldAddr rfl Tryz.underlying73 rfl Tryz.sizeOf3 rfl (by first | exact Nat.zero_add _ | rfl)) ?_
        refine d_take 11 rfl rfl (by kernel_rfl) (by kernel_rfl) (by kernel_rfl) rfl hS (v_load Tryz.isAgg3 rfl (cell_sc0 (k := 0) rfl rfl)) ?_
        refine d_take 12 rfl rfl (by kernel_rfl) (by kernel_rfl) (by kernel_rfl) rfl hS (v_move rfl) ?_
        refine d_take 13 rfl rfl (by kernel_rfl) (by kernel_rfl) (by kernel_rfl) rfl hS (v_nilCheck rfl) ?_
        refine d_take 14 rfl rfl (by kernel_rfl) (by kernel_rfl) (by kernel_rfl) rfl hS (v_fieldAddr rfl Tryz.underlying76 rfl Tryz.sizeOf73 rfl (by first | exact Nat.zero_add _ | rfl)) ?_
        refine d_take 15 rfl rfl (by kernel_rfl) (by kernel_rfl) (by kernel_rfl) rfl hS (v_fieldAddr rfl Tryz.underlying73 rfl Tryz.sizeOf71 rfl (by first | exact Nat.zero_add _ | rfl)) ?_
        refine d_take 16 rfl rfl (by kernel_rfl) (by kernel_rfl) (by kernel_rfl) rfl hS (v_fieldAddr rfl Tryz.underlying71 rfl Tryz.sizeOf3 rfl (by first | exact Nat.zero_add _ | rfl)) ?_
        refine d_take 17 rfl rfl (by kernel_rfl) (by kernel_rfl) (by kernel_rfl) rfl hS (v_load Tryz.isAgg3 rfl (cell_sc0 (k := 0) rfl rfl)) ?_
        refine d_take 18 rfl rfl (by kernel_rfl) (by kernel_rfl) (by kernel_rfl) rfl hS (v_rem rfl rfl (show ((n : Nat) : Int) ≠ 0 by omega) (tmodN put n)) ?_
        refine d_take 19 rfl rfl (by kernel_rfl) (by kernel_rfl) (by kernel_rfl) rfl hS (v_conv Tryz.underlying3 Tryz.underlying47 rfl (w32u (by omega))) ?_
        refine d_take 20 rfl rfl (by kernel_rfl) (by kernel_rfl) (by kernel_rfl) rfl hS (v_mul rfl rfl (by rw [w32u (by omega)]; omega : IntKind.wrap .u32 (8 * ((put % n : Nat) : Int)) = ((8 * (put % n) : Nat) : Int))) ?_
        refine d_take 21 rfl rfl (by kernel_rfl) (by kernel_rfl) (by kernel_rfl) rfl hS (v_add rfl rfl (by rw [w32u (by omega), hA]; omega : IntKind.wrap .u32 (((su + 4 : Nat) : Int) + ((8 * (put % n) : Nat) : Int)) = ((dnA ⟨⟨sd, sa, su, n⟩, true, 0, last, put⟩ : Nat) : Int))) ?_
        refine d_take 22 rfl rfl (by kernel_rfl) (by kernel_rfl) (by kernel_rfl) rfl hS (v_assign rfl) ?_
        refine d_done (by kernel_rfl) ?_; clear hS
        refine n_then (x_seq (x_region (s_val rfl (v_move rfl) (s_val rfl (v_nilCheck rfl) ?_))))
        refine s_val rfl (v_fieldAddr rfl Tryz.underlying76 rfl Tryz.sizeOf73 rfl (by first | exact Nat.zero_add _ | rfl)) ?_
        refine s_val rfl (v_fieldAddr rfl Tryz.underlying73 rfl Tryz.sizeOf3 rfl (by first | exact Nat.zero_add _ | rfl)) ?_
        refine s_val rfl (v_load Tryz.isAgg3 rfl (cell_own rfl)) ?_
        refine s_val rfl (v_add rfl rfl (by rw [w64 (by omega)]; omega : IntKind.wrap .i64 ((put : Int) + 1) = ((put + 1 : Nat) : Int))) ?_
        refine s_val rfl (v_rem rfl rfl (by decide) (tmodN (put + 1) 65536)) ?_
        refine s_val rfl (v_assign rfl) (x_nil (n_then (x_seq (x_seq (x_region (s_val rfl (v_move rfl) (s_val rfl (v_move rfl) (s_val rfl (v_move rfl) (s_val rfl (v_conv Tryz.underlying3 Tryz.underlying47 rfl (wrap_u32N x)) ?_)))))))))
        refine s_do rfl (d_call3 Tryz.call194 rfl (rvPut_spec W0 _ qv qs qm d fr pg h hF (dnA ⟨⟨sd, sa, su, n⟩, true, 0, last, put⟩) (by omega) (u32N x) hx)) ?_
        rintro _ B_ ⟨rfl, hB_⟩
        obtain rfl := hB_.symm
        refine s_val rfl (v_not rfl) (s_val rfl (v_move rfl) ?_)
        refine s_or rfl rfl rfl ?_ ?_
        · intro g5_7
          refine s_no rfl rfl rfl rfl (s_no rfl rfl rfl rfl (s_no rfl rfl rfl rfl (s_no rfl rfl rfl rfl (s_no rfl rfl rfl rfl (s_no rfl rfl rfl rfl (s_val rfl (v_pick_t rfl rfl) (x_nil (n_then (x_ift rfl (x_seq (x_region (s_val rfl (v_move rfl) (s_val rfl (v_nilCheck rfl) ?_)))))))))))))
          refine s_val rfl (v_fieldAddr rfl Tryz.underlying76 rfl Tryz.sizeOf73 rfl (by first | exact Nat.zero_add _ | rfl)) ?_
          refine s_val rfl (v_fieldAddr rfl Tryz.underlying73 rfl Tryz.sizeOf3 rfl (by first | exact Nat.zero_add _ | rfl)) ?_
          refine s_do0 (d_store Tryz.sizeOf3 rfl rfl rfl (Nat.le_of_ble_eq_true rfl) SetL.eq) ?_
          rintro _ _ rfl
          refine x_nil (n_then (x_seq (x_region (s_val rfl (v_assign rfl) (x_nil (n_then (x_ret (r_then (x_done (.inl rfl) (.cons (r_tmp rfl) .nil) ?_)))))))))
          first
            | (rw [hX1 (by simp_all)]; exact ⟨_, ⟨rfl, rfl⟩, inferInstance⟩)
            | (rw [hX2 (by simp_all) (by simp_all)]; exact ⟨_, ⟨rfl, rfl⟩, inferInstance⟩)
        · intro g5_7
          refine s_val rfl (v_move rfl) (s_yes rfl rfl (s_val rfl (v_move rfl) (s_yes rfl rfl ?_)))
          refine s_val rfl (v_add rfl rfl (by rw [w32u (by omega)]; omega : IntKind.wrap .u32 (((dnA ⟨⟨sd, sa, su, n⟩, true, 0, last, put⟩ : Nat) : Int) + 4) = ((dnA ⟨⟨sd, sa, su, n⟩, true, 0, last, put⟩ + 4 : Nat) : Int))) ?_
          refine s_yes rfl rfl (s_val rfl (v_move rfl) (s_yes rfl rfl (s_val rfl (v_conv Tryz.underlying3 Tryz.underlying47 rfl (wrap_u32N y)) ?_)))
          refine s_yes rfl rfl ?_
          refine s_do rfl (d_call3 Tryz.call194 rfl (rvPut_spec W0 _ qv qs qm (dnD1 fr pg d ⟨⟨sd, sa, su, n⟩, true, 0, last, put⟩) (dnF1 fr pg ⟨⟨sd, sa, su, n⟩, true, 0, last, put⟩ (u32N x)) pg h f1 (dnA ⟨⟨sd, sa, su, n⟩, true, 0, last, put⟩ + 4) (by omega) (u32N y) hy)) ?_
          rintro _ B_ ⟨rfl, hB_⟩
          obtain rfl := hB_.symm
          rw [l1]
          refine s_yes rfl rfl (s_val rfl (v_not rfl) (s_val rfl (v_pick_f rfl rfl) (x_nil (n_then ?_))))
          refine x_if rfl ?_ ?_
          · intro c5
            refine x_seq (x_region (s_val rfl (v_move rfl) (s_val rfl (v_nilCheck rfl) ?_)))
            refine s_val rfl (v_fieldAddr rfl Tryz.underlying76 rfl Tryz.sizeOf73 rfl (by first | exact Nat.zero_add _ | rfl)) ?_
            refine s_val rfl (v_fieldAddr rfl Tryz.underlying73 rfl Tryz.sizeOf3 rfl (by first | exact Nat.zero_add _ | rfl)) ?_
            refine s_do0 (d_store Tryz.sizeOf3 rfl rfl rfl (Nat.le_of_ble_eq_true rfl) SetL.eq) ?_
            rintro _ _ rfl
            refine x_nil (n_then (x_seq (x_region (s_val rfl (v_assign rfl) (x_nil (n_then (x_ret (r_then (x_done (.inl rfl) (.cons (r_tmp rfl) .nil) ?_)))))))))
            first
              | (rw [hX1 (by simp_all)]; exact ⟨_, ⟨rfl, rfl⟩, inferInstance⟩)
              | (rw [hX2 (by simp_all) (by simp_all)]; exact ⟨_, ⟨rfl, rfl⟩, inferInstance⟩)
          · intro c5
            refine x_skip (n_then (x_seq (x_region (s_val rfl (v_move rfl) (s_val rfl (v_move rfl) (s_val rfl (v_nilCheck rfl) ?_))))))
            refine s_val rfl (v_fieldAddr rfl Tryz.underlying76 rfl Tryz.sizeOf73 rfl (by first | exact Nat.zero_add _ | rfl)) ?_
            refine s_val rfl (v_fieldAddr rfl Tryz.underlying73 rfl Tryz.sizeOf3 rfl (by first | exact Nat.zero_add _ | rfl)) ?_
            refine s_do0 (d_store Tryz.sizeOf3 rfl rfl rfl (Nat.le_of_ble_eq_true rfl) SetL.eq) ?_
            rintro _ _ rfl
            refine x_nil (n_then (x_seq (x_seq (x_region (s_val rfl (v_move rfl) (s_val rfl (v_move rfl) (s_val rfl (v_nilCheck rfl) ?_)))))))
            refine s_val rfl (v_fieldAddr rfl Tryz.underlying76 rfl Tryz.sizeOf73 rfl (by first | exact Nat.zero_add _ | rfl)) ?_
            refine s_val rfl (v_fieldAddr rfl Tryz.underlying73 rfl Tryz.sizeOf71 rfl (by first | exact Nat.zero_add _ | rfl)) ?_
            refine s_val rfl (v_fieldAddr rfl Tryz.underlying71 rfl Tryz.sizeOf47 rfl (by first | exact Nat.zero_add _ | rfl)) ?_
            refine s_val rfl (v_load Tryz.isAgg47 rfl (cell_own rfl)) ?_
            refine s_val rfl (v_move rfl) ?_
            refine s_val rfl (v_conv Tryz.underlying3 Tryz.underlying47 rfl (w32u (by omega))) ?_
            refine s_do rfl (d_call3 Tryz.call194 rfl (rvPut_spec W0 _ qv qs qm (dnD2 fr pg d ⟨⟨sd, sa, su, n⟩, true, 0, last, put⟩ (u32N x)) (dnF2 fr pg ⟨⟨sd, sa, su, n⟩, true, 0, last, put⟩ (u32N x) (u32N y)) pg h f2 su (by omega) ((put + 1) % 65536) (by omega))) ?_
            rintro _ B_ ⟨rfl, hB_⟩
            obtain rfl := hB_.symm
            rw [l2]
            refine s_val rfl (v_not rfl) (x_nil (n_then ?_))
            refine x_if rfl ?_ ?_
            · intro c9
              refine x_seq (x_region (s_val rfl (v_move rfl) (s_val rfl (v_nilCheck rfl) ?_)))
              refine s_val rfl (v_fieldAddr rfl Tryz.underlying76 rfl Tryz.sizeOf73 rfl (by first | exact Nat.zero_add _ | rfl)) ?_
              refine s_val rfl (v_fieldAddr rfl Tryz.underlying73 rfl Tryz.sizeOf3 rfl (by first | exact Nat.zero_add _ | rfl)) ?_
              refine s_do0 (d_store Tryz.sizeOf3 rfl rfl rfl (Nat.le_of_ble_eq_true rfl) SetL.eq) ?_
              rintro _ _ rfl
              refine x_nil (n_then (x_seq (x_region (s_val rfl (v_assign rfl) (x_nil (n_then (x_ret (r_then (x_done (.inl rfl) (.cons (r_tmp rfl) .nil) ?_)))))))))
              rw [hX3 (by simp_all) (by simp_all) 5 (by simp_all)]; exact ⟨_, ⟨rfl, rfl⟩, inferInstance⟩
            · intro c9
              refine x_skip (n_then (x_seq (x_region (s_val rfl (v_assign rfl) (x_nil (n_then (x_ret (x_done (.inl rfl) (.cons (r_tmp rfl) .nil) ?_))))))))
              rw [hX3 (by simp_all) (by simp_all) 0 (by simp_all)]; exact ⟨_, ⟨rfl, rfl⟩, inferInstance⟩
  · have hu' : ¬ (on = true ∧ br = 0) := by simpa using hu
    have hX : dnX fr pg d ⟨⟨sd, sa, su, sn⟩, on, br, last, put⟩ (u32N x) (u32N y) = ⟨br, ⟨⟨sd, sa, su, sn⟩, on, br, last, put⟩, fr, d⟩ := by rw [dnX, if_neg hu]
    rw [hX]
    refine spec_body Tryz.func112 Tryz.ntmps112 rfl rfl ?_
    refine x_seq (x_region (s_val rfl (v_assign rfl) (x_nil (n_then (x_seq (x_seq (x_region (s_val rfl (v_move rfl) (s_val rfl (v_nilCheck rfl) ?_)))))))))
    refine s_val rfl (v_fieldAddr rfl Tryz.underlying76 rfl Tryz.sizeOf73 rfl (by first | exact Nat.zero_add _ | rfl)) ?_
    refine s_val rfl (v_fieldAddr rfl Tryz.underlying73 rfl Tryz.sizeOf4 rfl (by first | exact Nat.zero_add _ | rfl)) ?_
    refine s_val rfl (v_load Tryz.isAgg4 rfl (cell_own rfl)) ?_
    refine s_val rfl (v_not rfl) (s_val rfl (v_move rfl) ?_)
    refine s_or rfl rfl rfl ?_ ?_
    · intro g1_7
      refine s_no rfl rfl rfl rfl (s_no rfl rfl rfl rfl (s_no rfl rfl rfl rfl (s_no rfl rfl rfl rfl (s_no rfl rfl rfl rfl (s_val rfl (v_pick_t rfl rfl) (x_nil (n_then (x_ift rfl (x_seq (x_region (s_val rfl (v_move rfl) (s_val rfl (v_nilCheck rfl) ?_))))))))))))
      refine s_val rfl (v_fieldAddr rfl Tryz.underlying76 rfl Tryz.sizeOf73 rfl (by first | exact Nat.zero_add _ | rfl)) ?_
      refine s_val rfl (v_fieldAddr rfl Tryz.underlying73 rfl Tryz.sizeOf3 rfl (by first | exact Nat.zero_add _ | rfl)) ?_
      refine s_val rfl (v_load Tryz.isAgg3 rfl (cell_own rfl)) ?_
      refine s_val rfl (v_assign rfl) (x_nil (n_then (x_ret (r_then (x_done (.inl rfl) (.cons (r_tmp rfl) .nil) ?_)))))
      exact ⟨_, ⟨rfl, rfl⟩, inferInstance⟩
    · intro g1_7
      refine s_val rfl (v_move rfl) (s_yes rfl rfl (s_val rfl (v_nilCheck rfl) (s_yes rfl rfl ?_)))
      refine s_val rfl (v_fieldAddr rfl Tryz.underlying76 rfl Tryz.sizeOf73 rfl (by first | exact Nat.zero_add _ | rfl)) ?_
      refine s_yes rfl rfl ?_
      refine s_val rfl (v_fieldAddr rfl Tryz.underlying73 rfl Tryz.sizeOf3 rfl (by first | exact Nat.zero_add _ | rfl)) ?_
      refine s_yes rfl rfl (s_val rfl (v_load Tryz.isAgg3 rfl (cell_own rfl)) ?_)
      refine s_yes rfl rfl (s_val rfl (v_neq rfl rfl) (s_val rfl (v_pick_f rfl rfl) (x_nil (n_then ?_))))
      refine x_if rfl ?_ ?_
      · intro c1
        refine x_seq (x_region (s_val rfl (v_move rfl) (s_val rfl (v_nilCheck rfl) ?_)))
        refine s_val rfl (v_fieldAddr rfl Tryz.underlying76 rfl Tryz.sizeOf73 rfl (by first | exact Nat.zero_add _ | rfl)) ?_
        refine s_val rfl (v_fieldAddr rfl Tryz.underlying73 rfl Tryz.sizeOf3 rfl (by first | exact Nat.zero_add _ | rfl)) ?_
        refine s_val rfl (v_load Tryz.isAgg3 rfl (cell_own rfl)) ?_
        refine s_val rfl (v_assign rfl) (x_nil (n_then (x_ret (r_then (x_done (.inl rfl) (.cons (r_tmp rfl) .nil) ?_)))))
        exact ⟨_, ⟨rfl, rfl⟩, inferInstance⟩
      · intro c1
        simp_all
end Go.Proofs.YtlnmofhehcilhaaGreat
namespace Go.Proofs.YtlnmofhehcilhaaGreat
open Go.RowKit
set_option linter.unusedSimpArgs false
set_option linter.unusedVariables false
set_option maxRecDepth 20000
theorem lies27_spec (W0 : World) (R : List HP) : Spec Tryz.prog W0 93 [] R (fun v B => v = .agg (rgV ⟨0, 128, 192, ((4 : Nat) : Int)⟩).toArray ∧ B = R) := by
  refine spec_body Tryz.func93 Tryz.ntmps93 rfl rfl ?_
  refine x_seq (x_region (s_do rfl (d_allocA Tryz.zeroValue71) ?_))
  rintro _ _ ⟨b1, rfl, rfl⟩
  refine x_nil (n_then (x_seq (x_region (s_val rfl (v_build Tryz.underlying71 Tryz.zeroValue71 (sized_cons Tryz.sizeOf47 (sized_cons Tryz.sizeOf47 (sized_cons Tryz.sizeOf47 (sized_cons Tryz.sizeOf3 sized_nil)))) (fil_scal rfl Tryz.sizeOf47 rfl rfl (Nat.le_of_ble_eq_true rfl) SetL.eq (fil_scal rfl Tryz.sizeOf47 rfl rfl (Nat.le_of_ble_eq_true rfl) SetL.eq (fil_scal rfl Tryz.sizeOf47 rfl rfl (Nat.le_of_ble_eq_true rfl) SetL.eq (fil_scal rfl Tryz.sizeOf3 rfl rfl (Nat.le_of_ble_eq_true rfl) SetL.eq fil_nil))))) ?_))))
  refine s_do0 (d_storeAll Tryz.sizeOf71 rfl rfl rfl rfl rfl) ?_
  rintro _ _ rfl
  refine x_nil (n_then (x_ret (x_done (.inl rfl) (.cons (r_all Tryz.isAgg71 Tryz.sizeOf71 rfl rfl) .nil) ?_)))
  exact ⟨_, ⟨rfl, rfl⟩, inferInstance⟩
abbrev Bts := Option Addr × Nat × List Nat
@[reducible] def btV (y : Bts) : List Value := [.slice y.1 y.2.2.length y.2.1]
structure Gst where
  al : Option Addr
  cl : Nat
  L : List Dsc
  ah : Option Addr
  ch : Nat
  H : List Nat
  aa : Option Addr
  ca : Nat
  A : List Nat
  ab : Option Addr
  cb : Nat
  B : List Bts
  p : Nat
@[reducible] def gstV (g : Gst) : List Value := [.slice g.al g.L.length g.cl, .slice g.ah g.H.length g.ch, .slice g.aa g.A.length g.ca, .slice g.ab g.B.length g.cb, .int .u32 g.p]
structure GOk (S : World → Prop) (g : Gst) : Prop where
  l : SlA S g.al 4 dsV g.L
  lo : ∀ d ∈ g.L, d.ok
  h : SlA S g.ah 1 (fun x => [bV x]) g.H
  ho : By g.H
  a : SlA S g.aa 1 (fun x => [wV x]) g.A
  ao : ∀ x ∈ g.A, x < 4294967296
  b : SlA S g.ab 1 btV g.B
  bo : ∀ y ∈ g.B, SlA S y.1 1 (fun x => [bV x]) y.2.2 ∧ By y.2.2 ∧ y.2.2.length < 9223372036854775808
  p : g.p < 4294967296
  n : g.L.length < 9223372036854775808 ∧ g.H.length < 9223372036854775808 ∧ g.A.length < 9223372036854775808 ∧ g.B.length < 9223372036854775808
def mgA (pg : List Pl) (g : Gst) : Nat → List Frm × Nat
  | 0 => (List.replicate 8 zeros, 0)
  | i + 1 => (wrF (mgA pg g i).1 pg (g.A.getD i 0) (g.B.getD i (none, 0, [])).2.2, wrE (mgA pg g i).1 pg (g.A.getD i 0) (mgA pg g i).2 (g.B.getD i (none, 0, [])).2.2.length)
def mgN (g : Gst) : Nat := min (min g.B.length g.A.length) 20
def mgD (pg : List Pl) (g : Gst) : Nat → List Frm × Nat
  | 0 => mgA pg g (mgN g)
  | i + 1 => (wrF (mgD pg g i).1 pg (16 * i) (putD (g.L.getD i zD)), wrE (mgD pg g i).1 pg (16 * i) (mgD pg g i).2 16)
def mgH (pg : List Pl) (g : Gst) : Nat → List Frm × Nat
  | 0 => mgD pg g (min g.L.length 8)
  | i + 1 => (vsvF (mgH pg g i).1 pg (132 + 4 * i) 4 (g.H.getD i 0), vsvD (mgH pg g i).1 pg (132 + 4 * i) 4 (mgH pg g i).2)
def mgP (pg : List Pl) (g : Gst) : List Frm × Nat := (vsvF (mgH pg g (min g.H.length 4)).1 pg 128 4 g.p, vsvD (mgH pg g (min g.H.length 4)).1 pg 128 4 (mgH pg g (min g.H.length 4)).2)
def mk27 (g : Gst) : List Frm × Nat := mgP (pg23 8) g
def Mem8 (x : List Frm × Nat) : Prop := Frs x.1 ∧ x.1.length = 8 ∧ x.2 < 4096
theorem mgA_ok (pg : List Pl) (g : Gst) : ∀ i, Mem8 (mgA pg g i)
  | 0 => ⟨Frs.new 8, by simp [mgA], by simp [mgA]⟩
  | i + 1 => by
    obtain ⟨h1, h2, h3⟩ := mgA_ok pg g i
    exact ⟨(wrF_ok h1).1, (wrF_ok h1).2.trans h2, wrE_lt h3⟩
theorem mgD_ok (pg : List Pl) (g : Gst) : ∀ i, Mem8 (mgD pg g i)
  | 0 => mgA_ok pg g _
  | i + 1 => by
    obtain ⟨h1, h2, h3⟩ := mgD_ok pg g i
    exact ⟨(wrF_ok h1).1, (wrF_ok h1).2.trans h2, wrE_lt h3⟩
theorem mgH_ok (pg : List Pl) (g : Gst) : ∀ i, Mem8 (mgH pg g i)
  | 0 => mgD_ok pg g _
  | i + 1 => by
    obtain ⟨h1, h2, h3⟩ := mgH_ok pg g i
    exact ⟨(vsvF_ok h1).1, (vsvF_ok h1).2.trans h2, vsvD_lt h3⟩
theorem mgP_ok (pg : List Pl) (g : Gst) : Mem8 (mgP pg g) := by
  obtain ⟨h1, h2, h3⟩ := mgH_ok pg g (min g.H.length 4)
  exact ⟨(vsvF_ok h1).1, (vsvF_ok h1).2.trans h2, vsvD_lt h3⟩
theorem mk27_ok (g : Gst) : Mem8 (mk27 g) := mgP_ok _ _
@[reducible] def q27 : QS := ⟨⟨0, 128, 192, ((4 : Nat) : Int)⟩, true, 0, 0, 0⟩
theorem made27_spec (W0 : World) (R : List HP) (g : Gst) (hg : GOk (OwnP W0 R) g) (hfit : fitB 8 (pg23 8) ⟨0, 128, 192, ((4 : Nat) : Int)⟩ = true) :
    Spec Tryz.prog W0 24 [.agg (gstV g).toArray] R
      (fun v B => ∃ pv ps pm qv qs qm bq br, v = .tuple #[.pointer (some ⟨pv, 0, none⟩), .pointer (some ⟨bq, 0, none⟩), .pointer (some ⟨qv, 0, none⟩), .pointer (some ⟨br, 0, none⟩)] ∧
        B = pt bq (qO true q27) :: pt br (rqO q27) :: prH pv ps pm qv qs qm (mk27 g).2 (mk27 g).1 (pg23 8) R) := by
  obtain ⟨al, cl, L, ah, ch, H, aa, ca, A, ab, cb, B, p⟩ := g
  obtain ⟨hgl, hglo, hgh, hgho, hga, hgao, hgb, hgbo, hgp, hgn1, hgn2, hgn3, hgn4⟩ := hg
  dsimp only at hgl hglo hgh hgho hga hgao hgb hgbo hgp hgn1 hgn2 hgn3 hgn4
  obtain ⟨g, hg0⟩ : ∃ g, g = (⟨al, cl, L, ah, ch, H, aa, ca, A, ab, cb, B, p⟩ : Gst) := ⟨_, rfl⟩
  dsimp only [gstV]
  rw [← hg0]
  have hgA : g.A = A := by rw [hg0]
  have hgB : g.B = B := by rw [hg0]
  have hgL : g.L = L := by rw [hg0]
  have hgH : g.H = H := by rw [hg0]
  have hgP : g.p = p := by rw [hg0]
  refine spec_body Tryz.func24 Tryz.ntmps24 rfl rfl ?_
  refine x_seq (x_region (s_do rfl (d_boxA rfl) ?_))
  rintro _ _ ⟨b1, rfl, rfl⟩
  refine s_val rfl (v_assign rfl) (s_val rfl (v_assign rfl) (s_val rfl (v_assign rfl) (s_val rfl (v_assign rfl) (x_nil (n_then (x_seq (x_region ?_)))))))
  refine s_do rfl (d_call Tryz.call82 rfl (frNew_spec W0 _ 8 (by decide))) ?_
  rintro _ B_ ⟨ps, rfl, hB_⟩
  obtain rfl := hB_.symm
  refine s_val rfl (v_move rfl) (s_val rfl (v_extract rfl rfl) (s_val rfl (v_extract rfl rfl) (s_val rfl (v_assign rfl) (s_val rfl (v_assign rfl) (x_nil (n_then (x_seq (x_region (s_do rfl (d_call Tryz.call83 rfl (gmNew_spec W0 _)) ?_)))))))))
  rintro _ B_ ⟨pm, rfl, hB_⟩
  obtain rfl := hB_.symm
  refine s_val rfl (v_assign rfl) (x_nil (n_then (x_seq (x_region ?_))))
  refine s_do rfl (d_call Tryz.call84 rfl (rfNew_spec W0 _ 8 (by decide))) ?_
  rintro _ B_ ⟨qs, rfl, hB_⟩
  obtain rfl := hB_.symm
  refine s_val rfl (v_move rfl) (s_val rfl (v_extract rfl rfl) (s_val rfl (v_extract rfl rfl) (s_val rfl (v_assign rfl) (s_val rfl (v_assign rfl) (x_nil (n_then (x_seq (x_region (s_val rfl (v_build Tryz.underlying156 Tryz.zeroValue156 (sized_cons Tryz.sizeOf85 (sized_cons Tryz.sizeOf154 sized_nil)) fil_nil) ?_)))))))))
  refine s_do rfl (d_boxA rfl) ?_
  rintro _ _ ⟨qm, rfl, rfl⟩
  refine s_val rfl (v_assign rfl) (x_nil (n_then (x_seq (x_seq (run_pt (b := qm) (o' := rgO (List.replicate 12 (0, 0))) rfl ?_)))))
  refine x_region (s_val rfl (v_assign rfl) (x_nil (n_then (x_block ?_))))
  refine x_loop (fun i : Nat => i ≤ 8) (fun i => [(1, .pointer (some ⟨b1, 0, none⟩)), (6, .pointer (some ⟨ps, 0, none⟩)), (8, .pointer (some ⟨pm, 0, none⟩)), (9, .pointer (some ⟨qs, 0, none⟩)), (11, .pointer (some ⟨qm, 0, none⟩)), (12, .int .i64 i)]) (fun i => pt b1 (cob [.slice al L.length cl, .slice ah H.length ch, .slice aa A.length ca, .slice ab B.length cb, .int .u32 p] 49) :: pt qm (rgO (pg23 i)) :: rstoH qs (List.replicate 8 zeros) :: pt pm (gmO (pg23 i)) :: stoH ps (List.replicate 8 zeros) :: R) (fun i => 8 - i) 0 ?_ ?_ ?_ ?_
  · exact Nat.zero_le _
  · repeat (first | exact sub_nil | refine sub_cons rfl ?_)
  · simp only [pg23]; exact inferInstance
  · intro i hi
    have hP := pg23_ok i
    refine x_seq (x_seq (x_region (s_val rfl (v_move rfl) (s_val rfl (v_lss rfl rfl) (x_nil (n_then ?_))))))
    refine x_if rfl ?_ ?_
    · intro c6
      refine x_skip (n_then (x_seq (x_block (x_seq (x_region (s_val rfl (v_move rfl) (s_val rfl (v_move rfl) (s_val rfl (v_move rfl) (s_val rfl (v_build Tryz.underlying153 Tryz.zeroValue153 (sized_cons Tryz.sizeOf3 (sized_cons Tryz.sizeOf3 sized_nil)) (fil_scal rfl Tryz.sizeOf3 rfl rfl (Nat.le_of_ble_eq_true rfl) SetL.eq (fil_scal rfl Tryz.sizeOf3 rfl rfl (Nat.le_of_ble_eq_true rfl) SetL.eq fil_nil))) ?_)))))))))
      refine s_do rfl (d_call1 Tryz.call85 rfl (gmSet_spec W0 _ pm _ hP i ((i : Int), 3))) ?_
      rintro _ B_ ⟨rfl, hB_⟩
      obtain rfl := hB_.symm
      refine x_nil (n_then (x_region (s_val rfl (v_move rfl) (s_val rfl (v_move rfl) (s_val rfl (v_move rfl) (s_val rfl (v_build Tryz.underlying153 Tryz.zeroValue153 (sized_cons Tryz.sizeOf3 (sized_cons Tryz.sizeOf3 sized_nil)) (fil_scal rfl Tryz.sizeOf3 rfl rfl (Nat.le_of_ble_eq_true rfl) SetL.eq (fil_scal rfl Tryz.sizeOf3 rfl rfl (Nat.le_of_ble_eq_true rfl) SetL.eq fil_nil))) ?_))))))
      refine s_do rfl (d_call1 Tryz.call86 rfl (rgSet_spec W0 _ qm _ hP i ((i : Int), 3))) ?_
      rintro _ B_ ⟨rfl, hB_⟩
      obtain rfl := hB_.symm
      refine x_nil (n_block (n_then (x_region (s_val rfl (v_move rfl) ?_))))
      refine s_val rfl (v_add rfl rfl (by first | exact w64 (by omega) | rfl)) ?_
      refine s_val rfl (v_assign rfl) (x_nil (n_then ?_))
      refine inv_intro (i + 1) ?_ ?_ ?_ ?_
      · omega
      · omega
      · repeat (first | exact sub_nil | refine sub_cons rfl ?_)
      · simp only [pg23]; exact inferInstance
    · intro c6
      refine x_exit (e_then (e_then (e_block (n_then (x_seq ?_)))))
      obtain rfl : i = 8 := by omega
      have hP := pg23_ok 8
      rw [show mk27 g = mgP (pg23 8) g from rfl]
      obtain ⟨pg, hpg⟩ : ∃ x, pg23 8 = x := ⟨_, rfl⟩
      rw [hpg] at hP hfit ⊢
      refine x_region (s_val rfl (v_move rfl) (s_val rfl (v_move rfl) ?_))
      refine s_do rfl (d_call2 Tryz.call87 rfl (viNew_spec W0 _ ps pm _ _ hP (by decide))) ?_
      rintro _ B_ ⟨pv, rfl, hB_⟩
      obtain rfl := hB_.symm
      refine s_val rfl (v_move rfl) (s_val rfl (v_extract rfl rfl) (s_val rfl (v_extract rfl rfl) (s_val rfl (v_assign rfl) (s_val rfl (v_assign rfl) (x_nil (n_then (x_seq (x_seq (x_region (s_val rfl (v_move rfl) (s_val rfl (v_neq rfl rfl) (x_nil (n_then ?_)))))))))))))
      refine x_if rfl ?_ ?_
      · intro c11
        exact absurd rfl c11
      · intro c11
        refine x_skip (n_then (x_seq (x_region (s_val rfl (v_move rfl) (s_val rfl (v_move rfl) (s_val rfl (v_build Tryz.underlying87 Tryz.zeroValue87 (sized_cons Tryz.sizeOf83 (sized_cons Tryz.sizeOf84 (sized_cons Tryz.sizeOf85 sized_nil))) (fil_scal rfl Tryz.sizeOf83 rfl rfl (Nat.le_of_ble_eq_true rfl) SetL.eq (fil_scal rfl Tryz.sizeOf84 rfl rfl (Nat.le_of_ble_eq_true rfl) SetL.eq fil_nil))) ?_))))))
        refine s_do rfl (d_boxA rfl) ?_
        rintro _ _ ⟨qv, rfl, rfl⟩
        refine s_val rfl (v_assign rfl) (x_nil (n_then ?_))
        refine x_cut (fun _ : Unit => True) (fun _ => [(1, .pointer (some ⟨b1, 0, none⟩)), (13, .pointer (some ⟨pv, 0, none⟩)), (15, .pointer (some ⟨qv, 0, none⟩))]) (fun _ => pt b1 (cob [.slice al L.length cl, .slice ah H.length ch, .slice aa A.length ca, .slice ab B.length cb, .int .u32 p] 49) :: prH pv ps pm qv qs qm (mgD pg g 0).2 (mgD pg g 0).1 pg R) ?_ ?_
        · skip
          refine x_seq (run_pt (b := qv) (o' := rvO qs qm 0) rfl ?_)
          refine x_region (s_val rfl (v_assign rfl) (x_nil (n_then (x_block ?_))))
          refine x_loop (fun i : Nat => i ≤ mgN g) (fun i => [(1, .pointer (some ⟨b1, 0, none⟩)), (13, .pointer (some ⟨pv, 0, none⟩)), (15, .pointer (some ⟨qv, 0, none⟩)), (16, .int .i64 i)]) (fun i => pt b1 (cob [.slice al L.length cl, .slice ah H.length ch, .slice aa A.length ca, .slice ab B.length cb, .int .u32 p] 49) :: prH pv ps pm qv qs qm (mgA pg g i).2 (mgA pg g i).1 pg R) (fun i => 20 - i) 0 ?_ ?_ ?_ ?_
          · exact Nat.zero_le _
          · repeat (first | exact sub_nil | refine sub_cons rfl ?_)
          · simp only [mgA]; exact inferInstance
          · intro i hi
            obtain ⟨hF, hFl, hFd⟩ := mgA_ok pg g i
            rw [mgN, hgA, hgB] at hi
            refine x_seq (x_seq (x_region (s_val rfl (v_move rfl) ?_)))
            refine s_val rfl (v_fieldAddr rfl Tryz.underlying49 rfl Tryz.sizeOf46 rfl (by first | exact Nat.zero_add _ | rfl)) ?_
            refine s_val rfl (v_load Tryz.isAgg46 rfl (cell_own rfl)) ?_
            refine s_val rfl (v_len_slice Tryz.underlying46 rfl) (s_val rfl (v_lss rfl rfl) (s_val rfl (v_move rfl) ?_))
            refine s_and rfl rfl rfl ?_ ?_
            · intro g15_6
              refine s_val rfl (v_move rfl) (s_yes rfl rfl ?_)
              refine s_val rfl (v_fieldAddr rfl Tryz.underlying49 rfl Tryz.sizeOf45 rfl (by first | exact Nat.zero_add _ | rfl)) ?_
              refine s_yes rfl rfl (s_val rfl (v_load Tryz.isAgg45 rfl (cell_own rfl)) ?_)
              refine s_yes rfl rfl (s_val rfl (v_len_slice Tryz.underlying45 rfl) (s_yes rfl rfl (s_val rfl (v_lss rfl rfl) (s_val rfl (v_pick_t rfl rfl) (s_val rfl (v_move rfl) ?_)))))
              refine s_and rfl rfl rfl ?_ ?_
              · intro g15_13
                refine s_val rfl (v_move rfl) (s_yes rfl rfl (s_val rfl (v_lss rfl rfl) (s_val rfl (v_pick_t rfl rfl) (x_nil (n_then ?_)))))
                refine x_if rfl ?_ ?_
                · intro c15
                  refine x_skip (n_then (x_seq (x_block (x_seq ?_))))
                  have hia : i < A.length := by omega
                  have hib : i < B.length := by omega
                  obtain ⟨ga, oa, rfl, hca⟩ := hga.at_ hia
                  obtain ⟨gb, ob, rfl, hcb⟩ := hgb.at_ hib
                  have hai := hgao _ (List.getElem_mem hia)
                  obtain ⟨hb1, hb2, hb3⟩ := hgbo _ (List.getElem_mem hib)
                  have hsA : mgA pg g (i + 1) = (wrF (mgA pg g i).1 pg A[i] B[i].2.2, wrE (mgA pg g i).1 pg A[i] (mgA pg g i).2 B[i].2.2.length) := by rw [mgA, hgA, hgB]; simp [List.getD, hia, hib]
                  refine x_draw [(b1, 0, _), (ga, oa + i * 1, [wV A[i]]), (gb, ob + i * 1, btV B[i])] 12 mixed rfl (sc_own (sc_cons hca.weak (sc_cons hcb.weak sc_end))) (fun hS => ?_)
                  refine d_take 0 rfl rfl (by kernel_rfl) (by kernel_rfl) (by kernel_rfl) rfl hS (v_move rfl) ?_
                  refine d_take 1 rfl rfl (by kernel_rfl) (by kernel_rfl) (by kernel_rfl) rfl hS (v_fieldAddr rfl Tryz.underlying49 rfl Tryz.sizeOf45 rfl (by first | exact Nat.zero_add _ | rfl)) ?_
                  refine d_take 2 rfl rfl (by kernel_rfl) (by kernel_rfl) (by kernel_rfl) rfl hS (v_load Tryz.isAgg45 rfl (by first | exact cell_sc0 (k := 0) rfl rfl | exact cell_sc0 (k := 1) rfl rfl | exact cell_sc0 (k := 2) rfl rfl)) ?_
                  refine d_take 3 rfl rfl (by kernel_rfl) (by kernel_rfl) (by kernel_rfl) rfl hS (v_move rfl) ?_
                  refine d_take 4 rfl rfl (by kernel_rfl) (by kernel_rfl) (by kernel_rfl) rfl hS (v_idx Tryz.underlying45 Tryz.sizeOf47 rfl rfl rfl hia (by first | exact Nat.zero_add _ | rfl)) ?_
                  refine d_take 5 rfl rfl (by kernel_rfl) (by kernel_rfl) (by kernel_rfl) rfl hS (v_load Tryz.isAgg47 rfl (cell_sc1 (k := 1) rfl)) ?_
                  refine d_take 6 rfl rfl (by kernel_rfl) (by kernel_rfl) (by kernel_rfl) rfl hS (v_fieldAddr rfl Tryz.underlying49 rfl Tryz.sizeOf46 rfl (by first | exact Nat.zero_add _ | rfl)) ?_
                  refine d_take 7 rfl rfl (by kernel_rfl) (by kernel_rfl) (by kernel_rfl) rfl hS (v_load Tryz.isAgg46 rfl (by first | exact cell_sc0 (k := 0) rfl rfl | exact cell_sc0 (k := 1) rfl rfl | exact cell_sc0 (k := 2) rfl rfl)) ?_
                  refine d_take 8 rfl rfl (by kernel_rfl) (by kernel_rfl) (by kernel_rfl) rfl hS (v_move rfl) ?_
                  refine d_take 9 rfl rfl (by kernel_rfl) (by kernel_rfl) (by kernel_rfl) rfl hS (v_idx Tryz.underlying46 Tryz.sizeOf44 rfl rfl rfl hib (by first | exact Nat.zero_add _ | rfl)) ?_
                  refine d_take 10 rfl rfl (by kernel_rfl) (by kernel_rfl) (by kernel_rfl) rfl hS (v_load Tryz.isAgg44 rfl (cell_sc1 (k := 2) rfl)) ?_
                  refine d_one 11 (by kernel_rfl) rfl rfl (d_call3 Tryz.call88 rfl (viWrite_spec W0 _ pv ps pm _ _ _ _ pg hP hF hFd A[i] hai B[i].2.2 hb2 hb1.weak hb3)) rfl ?_; clear hS
                  rintro _ B_ ⟨rfl, hB_⟩
                  obtain rfl := hB_.symm
                  refine ⟨(sc_own (sc_cons hca.weak (sc_cons hcb.weak sc_end))), fun hS => ?_⟩
                  refine d_done (by kernel_rfl) ?_; clear hS
                  refine n_then ?_
                  refine x_draw [(b1, 0, _), (ga, oa + i * 1, [wV A[i]]), (gb, ob + i * 1, btV B[i])] 12 mixed rfl (sc_own (sc_cons hca.weak (sc_cons hcb.weak sc_end))) (fun hS => ?_)
                  refine d_take 0 rfl rfl (by kernel_rfl) (by kernel_rfl) (by kernel_rfl) rfl hS (v_move rfl) ?_
                  refine d_take 1 rfl rfl (by kernel_rfl) (by kernel_rfl) (by kernel_rfl) rfl hS (v_fieldAddr rfl Tryz.underlying49 rfl Tryz.sizeOf45 rfl (by first | exact Nat.zero_add _ | rfl)) ?_
                  refine d_take 2 rfl rfl (by kernel_rfl) (by kernel_rfl) (by kernel_rfl) rfl hS (v_load Tryz.isAgg45 rfl (by first | exact cell_sc0 (k := 0) rfl rfl | exact cell_sc0 (k := 1) rfl rfl | exact cell_sc0 (k := 2) rfl rfl)) ?_
                  refine d_take 3 rfl rfl (by kernel_rfl) (by kernel_rfl) (by kernel_rfl) rfl hS (v_move rfl) ?_
                  refine d_take 4 rfl rfl (by kernel_rfl) (by kernel_rfl) (by kernel_rfl) rfl hS (v_idx Tryz.underlying45 Tryz.sizeOf47 rfl rfl rfl hia (by first | exact Nat.zero_add _ | rfl)) ?_
                  refine d_take 5 rfl rfl (by kernel_rfl) (by kernel_rfl) (by kernel_rfl) rfl hS (v_load Tryz.isAgg47 rfl (cell_sc1 (k := 1) rfl)) ?_
                  refine d_take 6 rfl rfl (by kernel_rfl) (by kernel_rfl) (by kernel_rfl) rfl hS (v_fieldAddr rfl Tryz.underlying49 rfl Tryz.sizeOf46 rfl (by first | exact Nat.zero_add _ | rfl)) ?_
                  refine d_take 7 rfl rfl (by kernel_rfl) (by kernel_rfl) (by kernel_rfl) rfl hS (v_load Tryz.isAgg46 rfl (by first | exact cell_sc0 (k := 0) rfl rfl | exact cell_sc0 (k := 1) rfl rfl | exact cell_sc0 (k := 2) rfl rfl)) ?_
                  refine d_take 8 rfl rfl (by kernel_rfl) (by kernel_rfl) (by kernel_rfl) rfl hS (v_move rfl) ?_
                  refine d_take 9 rfl rfl (by kernel_rfl) (by kernel_rfl) (by kernel_rfl) rfl hS (v_idx Tryz.underlying46 Tryz.sizeOf44 rfl rfl rfl hib (by first | exact Nat.zero_add _ | rfl)) ?_
                  refine d_take 10 rfl rfl (by kernel_rfl) (by kernel_rfl) (by kernel_rfl) rfl hS (v_load Tryz.isAgg44 rfl (cell_sc1 (k := 2) rfl)) ?_
                  refine d_one 11 (by kernel_rfl) rfl rfl (d_call3 Tryz.call89 rfl (rvWrite_spec W0 _ qv qs qm _ _ _ _ pg hP hF A[i] hai B[i].2.2 hb2 hb1.weak hb3)) rfl ?_; clear hS
                  rintro _ B_ ⟨rfl, hB_⟩
                  obtain rfl := hB_.symm
                  refine ⟨(sc_own (sc_cons hca.weak (sc_cons hcb.weak sc_end))), fun hS => ?_⟩
                  refine d_done (by kernel_rfl) ?_; clear hS
                  refine n_block (n_then (x_region (s_val rfl (v_move rfl) ?_)))
                  refine s_val rfl (v_add rfl rfl (by first | exact w64 (by omega) | rfl)) ?_
                  refine s_val rfl (v_assign rfl) (x_nil (n_then ?_))
                  refine inv_intro (i + 1) ?_ ?_ ?_ ?_
                  · show i + 1 ≤ mgN g
                    rw [mgN, hgA, hgB]; omega
                  · omega
                  · repeat (first | exact sub_nil | refine sub_cons rfl ?_)
                  · simp only [hsA]; exact inferInstance
                · intro c15
                  refine x_exit (e_then (e_then (e_block (n_then ?_))))
                  refine mid_intro () ?_ ?_ ?_
                  · trivial
                  · repeat (first | exact sub_nil | refine sub_cons rfl ?_)
                  · obtain rfl : i = mgN g := by rw [mgN, hgA, hgB]; omega
                    simp only [mgD]; exact inferInstance
              · intro g15_13
                refine s_no rfl rfl rfl rfl (s_val rfl (v_pick_f rfl rfl) (x_nil (n_then (x_iff rfl (x_exit (e_then (e_then (e_block (n_then ?_)))))))))
                refine mid_intro () ?_ ?_ ?_
                · trivial
                · repeat (first | exact sub_nil | refine sub_cons rfl ?_)
                · obtain rfl : i = mgN g := by rw [mgN, hgA, hgB]; omega
                  simp only [mgD]; exact inferInstance
            · intro g15_6
              refine s_no rfl rfl rfl rfl (s_no rfl rfl rfl rfl (s_no rfl rfl rfl rfl (s_no rfl rfl rfl rfl (s_val rfl (v_pick_f rfl rfl) (s_val rfl (v_move rfl) (s_no rfl rfl rfl rfl (s_no rfl rfl rfl rfl (s_val rfl (v_pick_f rfl rfl) (x_nil (n_then (x_iff rfl (x_exit (e_then (e_then (e_block (n_then ?_))))))))))))))))
              refine mid_intro () ?_ ?_ ?_
              · trivial
              · repeat (first | exact sub_nil | refine sub_cons rfl ?_)
              · obtain rfl : i = mgN g := by rw [mgN, hgA, hgB]; omega
                simp only [mgD]; exact inferInstance
        · intro _ _
          refine x_cut (fun _ : Unit => True) (fun _ => [(1, .pointer (some ⟨b1, 0, none⟩)), (13, .pointer (some ⟨pv, 0, none⟩)), (15, .pointer (some ⟨qv, 0, none⟩))]) (fun _ => pt b1 (cob [.slice al L.length cl, .slice ah H.length ch, .slice aa A.length ca, .slice ab B.length cb, .int .u32 p] 49) :: prH pv ps pm qv qs qm (mgH pg g 0).2 (mgH pg g 0).1 pg R) ?_ ?_
          · skip
            refine x_seq (x_region (s_val rfl (v_assign rfl) (x_nil (n_then (x_block ?_)))))
            refine x_loop (fun i : Nat => i ≤ min L.length 8) (fun i => [(1, .pointer (some ⟨b1, 0, none⟩)), (13, .pointer (some ⟨pv, 0, none⟩)), (15, .pointer (some ⟨qv, 0, none⟩)), (17, .int .i64 i)]) (fun i => pt b1 (cob [.slice al L.length cl, .slice ah H.length ch, .slice aa A.length ca, .slice ab B.length cb, .int .u32 p] 49) :: prH pv ps pm qv qs qm (mgD pg g i).2 (mgD pg g i).1 pg R) (fun i => 8 - i) 0 ?_ ?_ ?_ ?_
            · exact Nat.zero_le _
            · repeat (first | exact sub_nil | refine sub_cons rfl ?_)
            · exact inferInstance
            · intro i hi
              obtain ⟨hF, hFl, hFd⟩ := mgD_ok pg g i
              refine x_seq (x_seq (x_region (s_val rfl (v_move rfl) ?_)))
              refine s_val rfl (v_fieldAddr rfl Tryz.underlying49 rfl Tryz.sizeOf43 rfl (by first | exact Nat.zero_add _ | rfl)) ?_
              refine s_val rfl (v_load Tryz.isAgg43 rfl (cell_own rfl)) ?_
              refine s_val rfl (v_len_slice Tryz.underlying43 rfl) (s_val rfl (v_lss rfl rfl) (s_val rfl (v_move rfl) ?_))
              refine s_and rfl rfl rfl ?_ ?_
              · intro g20_6
                refine s_val rfl (v_move rfl) (s_yes rfl rfl (s_val rfl (v_lss rfl rfl) (s_val rfl (v_pick_t rfl rfl) (x_nil (n_then ?_)))))
                refine x_if rfl ?_ ?_
                · intro c20
                  refine x_skip (n_then (x_seq (x_block (x_seq ?_))))
                  have hi1 : i < L.length := by omega
                  obtain ⟨gl, ol, rfl, hcl⟩ := hgl.at_ hi1
                  have hdi := hglo _ (List.getElem_mem hi1)
                  have hsD : mgD pg g (i + 1) = (wrF (mgD pg g i).1 pg (16 * i) (putD L[i]), wrE (mgD pg g i).1 pg (16 * i) (mgD pg g i).2 16) := by rw [mgD, hgL]; simp [List.getD, hi1]
                  refine x_region ?_
                  refine s_val rfl (v_fieldAddr rfl Tryz.underlying49 rfl Tryz.sizeOf43 rfl (by first | exact Nat.zero_add _ | rfl)) ?_
                  refine s_val rfl (v_load Tryz.isAgg43 rfl (cell_own rfl)) ?_
                  refine s_val rfl (v_move rfl) ?_
                  refine s_val rfl (v_idx Tryz.underlying43 Tryz.sizeOf99 rfl rfl rfl hi1 (by first | exact Nat.zero_add _ | rfl)) ?_
                  refine s_val rfl (v_loadAgg Tryz.isAgg99 Tryz.sizeOf99 rfl hcl.weak rfl) ?_
                  refine s_do rfl (d_call Tryz.call90 rfl (dsPut_spec W0 _ L[i] hdi)) ?_
                  rintro _ B_ ⟨a', c', rfl, hB_⟩
                  obtain rfl := hB_.symm
                  refine run_form (E := 5) (sz := 1) (a := a') (c := c') (n := 16) (fun hf => ?_)
                  refine s_val rfl (v_assign rfl) (x_nil (n_then (x_seq (x_region (s_val rfl (v_move rfl) (s_val rfl (v_move rfl) ?_))))))
                  refine s_val rfl (v_mul rfl rfl (by rw [w64 (by omega)]; omega : IntKind.wrap .i64 (16 * (i : Int)) = ((16 * i : Nat) : Int))) ?_
                  refine s_val rfl (v_conv Tryz.underlying3 Tryz.underlying47 rfl (w32u (by omega))) ?_
                  refine s_val rfl (v_move rfl) ?_
                  refine s_do rfl (d_call3 Tryz.call88 rfl (viWriteN_spec W0 _ pv ps pm _ c' 16 a' _ pg hP hF hFd (16 * i) (by omega) (putD L[i]) (putD_len _) (bytesL_by _) (sla_cells hf (cells_osl (E := 5) (sz := 1) (a := a') (c := c') (n := 16)) (fun _ => rfl) (byV_fm _).symm (by decide)) (by decide))) ?_
                  rintro _ B_ ⟨rfl, hB_⟩
                  obtain rfl := hB_.symm
                  refine x_nil (n_then (x_region (s_val rfl (v_move rfl) (s_val rfl (v_move rfl) ?_))))
                  refine s_val rfl (v_mul rfl rfl (by rw [w64 (by omega)]; omega : IntKind.wrap .i64 (16 * (i : Int)) = ((16 * i : Nat) : Int))) ?_
                  refine s_val rfl (v_conv Tryz.underlying3 Tryz.underlying47 rfl (w32u (by omega))) ?_
                  refine s_val rfl (v_move rfl) ?_
                  refine s_do rfl (d_call3 Tryz.call89 rfl (rvWriteN_spec W0 _ qv qs qm _ c' 16 a' _ pg hP hF (16 * i) (by omega) (putD L[i]) (putD_len _) (bytesL_by _) (sla_cells hf (cells_osl (E := 5) (sz := 1) (a := a') (c := c') (n := 16)) (fun _ => rfl) (byV_fm _).symm (by decide)) (by decide))) ?_
                  rintro _ B_ ⟨rfl, hB_⟩
                  obtain rfl := hB_.symm
                  refine x_nil (n_block (n_then (x_region (s_val rfl (v_move rfl) ?_))))
                  refine s_val rfl (v_add rfl rfl (by first | exact w64 (by omega) | rfl)) ?_
                  refine s_val rfl (v_assign rfl) (x_nil (n_then ?_))
                  refine inv_intro (i + 1) ?_ ?_ ?_ ?_
                  · omega
                  · omega
                  · repeat (first | exact sub_nil | refine sub_cons rfl ?_)
                  · simp only [hsD]; exact inferInstance
                · intro c20
                  refine x_exit (e_then (e_then (e_block (n_then ?_))))
                  refine mid_intro () ?_ ?_ ?_
                  · trivial
                  · repeat (first | exact sub_nil | refine sub_cons rfl ?_)
                  · obtain rfl : i = min L.length 8 := by omega
                    simp only [mgH, hgL]; exact inferInstance
              · intro g20_6
                refine s_no rfl rfl rfl rfl (s_val rfl (v_pick_f rfl rfl) (x_nil (n_then (x_iff rfl (x_exit (e_then (e_then (e_block (n_then ?_)))))))))
                refine mid_intro () ?_ ?_ ?_
                · trivial
                · repeat (first | exact sub_nil | refine sub_cons rfl ?_)
                · obtain rfl : i = min L.length 8 := by omega
                  simp only [mgH, hgL]; exact inferInstance
          · intro _ _
            refine x_cut (fun _ : Unit => True) (fun _ => [(1, .pointer (some ⟨b1, 0, none⟩)), (13, .pointer (some ⟨pv, 0, none⟩)), (15, .pointer (some ⟨qv, 0, none⟩))]) (fun _ => pt b1 (cob [.slice al L.length cl, .slice ah H.length ch, .slice aa A.length ca, .slice ab B.length cb, .int .u32 p] 49) :: prH pv ps pm qv qs qm (mgH pg g (min H.length 4)).2 (mgH pg g (min H.length 4)).1 pg R) ?_ ?_
            · skip
              refine x_seq (x_region (s_val rfl (v_assign rfl) (x_nil (n_then (x_block ?_)))))
              refine x_loop (fun i : Nat => i ≤ min H.length 4) (fun i => [(1, .pointer (some ⟨b1, 0, none⟩)), (13, .pointer (some ⟨pv, 0, none⟩)), (15, .pointer (some ⟨qv, 0, none⟩)), (19, .int .i64 i)]) (fun i => pt b1 (cob [.slice al L.length cl, .slice ah H.length ch, .slice aa A.length ca, .slice ab B.length cb, .int .u32 p] 49) :: prH pv ps pm qv qs qm (mgH pg g i).2 (mgH pg g i).1 pg R) (fun i => 4 - i) 0 ?_ ?_ ?_ ?_
              · exact Nat.zero_le _
              · repeat (first | exact sub_nil | refine sub_cons rfl ?_)
              · exact inferInstance
              · intro i hi
                obtain ⟨hF, hFl, hFd⟩ := mgH_ok pg g i
                refine x_seq (x_seq (x_region (s_val rfl (v_move rfl) ?_)))
                refine s_val rfl (v_fieldAddr rfl Tryz.underlying49 rfl Tryz.sizeOf44 rfl (by first | exact Nat.zero_add _ | rfl)) ?_
                refine s_val rfl (v_load Tryz.isAgg44 rfl (cell_own rfl)) ?_
                refine s_val rfl (v_len_slice Tryz.underlying44 rfl) (s_val rfl (v_lss rfl rfl) (s_val rfl (v_move rfl) ?_))
                refine s_and rfl rfl rfl ?_ ?_
                · intro g26_6
                  refine s_val rfl (v_move rfl) (s_yes rfl rfl (s_val rfl (v_lss rfl rfl) (s_val rfl (v_pick_t rfl rfl) (x_nil (n_then ?_)))))
                  refine x_if rfl ?_ ?_
                  · intro c26
                    refine x_skip (n_then (x_seq (x_block (x_seq ?_))))
                    have hi1 : i < H.length := by omega
                    obtain ⟨gh, oh, rfl, hch⟩ := hgh.at_ hi1
                    have hhi : H[i] < 256 := hgho.get hi1
                    have hsH : mgH pg g (i + 1) = (vsvF (mgH pg g i).1 pg (132 + 4 * i) 4 H[i], vsvD (mgH pg g i).1 pg (132 + 4 * i) 4 (mgH pg g i).2) := by rw [mgH, hgH]; simp [List.getD, hi1]
                    refine x_region (s_val rfl (v_move rfl) (s_val rfl (v_move rfl) ?_))
                    refine s_val rfl (v_mul rfl rfl (by rw [w64 (by omega)]; omega : IntKind.wrap .i64 (4 * (i : Int)) = ((4 * i : Nat) : Int))) ?_
                    refine s_val rfl (v_add rfl rfl (by rw [w64 (by omega)]; omega : IntKind.wrap .i64 (132 + ((4 * i : Nat) : Int)) = ((132 + 4 * i : Nat) : Int))) ?_
                    refine s_val rfl (v_conv Tryz.underlying3 Tryz.underlying47 rfl (w32u (by omega))) ?_
                    refine s_val rfl (v_fieldAddr rfl Tryz.underlying49 rfl Tryz.sizeOf44 rfl (by first | exact Nat.zero_add _ | rfl)) ?_
                    refine s_val rfl (v_load Tryz.isAgg44 rfl (cell_own rfl)) ?_
                    refine s_val rfl (v_move rfl) ?_
                    refine s_val rfl (v_idx Tryz.underlying44 Tryz.sizeOf5 rfl rfl rfl hi1 (by first | exact Nat.zero_add _ | rfl)) ?_
                    refine s_val rfl (v_load Tryz.isAgg5 rfl (Cells.weak hch 0 _ rfl)) ?_
                    refine s_val rfl (v_conv Tryz.underlying5 Tryz.underlying47 rfl (w32u (by omega))) ?_
                    refine s_do rfl (d_call3 Tryz.call41 rfl (viSave_spec W0 _ pv ps pm _ _ pg hP hF hFd (132 + 4 * i) (by omega) 4 H[i] (by omega))) ?_
                    rintro _ B_ ⟨rfl, hB_⟩
                    obtain rfl := hB_.symm
                    refine x_nil (n_then (x_region (s_val rfl (v_move rfl) (s_val rfl (v_move rfl) ?_))))
                    refine s_val rfl (v_mul rfl rfl (by rw [w64 (by omega)]; omega : IntKind.wrap .i64 (4 * (i : Int)) = ((4 * i : Nat) : Int))) ?_
                    refine s_val rfl (v_add rfl rfl (by rw [w64 (by omega)]; omega : IntKind.wrap .i64 (132 + ((4 * i : Nat) : Int)) = ((132 + 4 * i : Nat) : Int))) ?_
                    refine s_val rfl (v_conv Tryz.underlying3 Tryz.underlying47 rfl (w32u (by omega))) ?_
                    refine s_val rfl (v_fieldAddr rfl Tryz.underlying49 rfl Tryz.sizeOf44 rfl (by first | exact Nat.zero_add _ | rfl)) ?_
                    refine s_val rfl (v_load Tryz.isAgg44 rfl (cell_own rfl)) ?_
                    refine s_val rfl (v_move rfl) ?_
                    refine s_val rfl (v_idx Tryz.underlying44 Tryz.sizeOf5 rfl rfl rfl hi1 (by first | exact Nat.zero_add _ | rfl)) ?_
                    refine s_val rfl (v_load Tryz.isAgg5 rfl (Cells.weak hch 0 _ rfl)) ?_
                    refine s_val rfl (v_conv Tryz.underlying5 Tryz.underlying47 rfl (w32u (by omega))) ?_
                    refine s_do rfl (d_call3 Tryz.call42 rfl (rvSave_spec W0 _ qv qs qm _ _ pg hP hF (132 + 4 * i) (by omega) 4 H[i] (by omega))) ?_
                    rintro _ B_ ⟨rfl, hB_⟩
                    obtain rfl := hB_.symm
                    refine x_nil (n_block (n_then (x_region (s_val rfl (v_move rfl) ?_))))
                    refine s_val rfl (v_add rfl rfl (by first | exact w64 (by omega) | rfl)) ?_
                    refine s_val rfl (v_assign rfl) (x_nil (n_then ?_))
                    refine inv_intro (i + 1) ?_ ?_ ?_ ?_
                    · omega
                    · omega
                    · repeat (first | exact sub_nil | refine sub_cons rfl ?_)
                    · simp only [hsH]; exact inferInstance
                  · intro c26
                    refine x_exit (e_then (e_then (e_block (n_then ?_))))
                    refine mid_intro () ?_ ?_ ?_
                    · trivial
                    · repeat (first | exact sub_nil | refine sub_cons rfl ?_)
                    · obtain rfl : i = min H.length 4 := by omega
                      exact inferInstance
                · intro g26_6
                  refine s_no rfl rfl rfl rfl (s_val rfl (v_pick_f rfl rfl) (x_nil (n_then (x_iff rfl (x_exit (e_then (e_then (e_block (n_then ?_)))))))))
                  refine mid_intro () ?_ ?_ ?_
                  · trivial
                  · repeat (first | exact sub_nil | refine sub_cons rfl ?_)
                  · obtain rfl : i = min H.length 4 := by omega
                    exact inferInstance
            · intro _ _
              refine x_seq ?_
              obtain ⟨hF, hFl, hFd⟩ := mgH_ok pg g (min H.length 4)
              have hmg : mgP pg g = (vsvF (mgH pg g (min H.length 4)).1 pg 128 4 p, vsvD (mgH pg g (min H.length 4)).1 pg 128 4 (mgH pg g (min H.length 4)).2) := by rw [mgP, hgH, hgP]
              rw [hmg]
              generalize (mgH pg g (min H.length 4)).1 = f0 at hF hFl ⊢
              generalize (mgH pg g (min H.length 4)).2 = d0 at hFd ⊢
              refine x_region (s_val rfl (v_move rfl) ?_)
              refine s_val rfl (v_fieldAddr rfl Tryz.underlying49 rfl Tryz.sizeOf47 rfl (by first | exact Nat.zero_add _ | rfl)) ?_
              refine s_val rfl (v_load Tryz.isAgg47 rfl (cell_own rfl)) ?_
              refine s_do rfl (d_call3 Tryz.call41 rfl (viSave_spec W0 _ pv ps pm d0 f0 pg hP hF hFd 128 (by decide) 4 p hgp)) ?_
              rintro _ B_ ⟨rfl, hB_⟩
              obtain rfl := hB_.symm
              refine x_nil (n_then (x_seq (x_region (s_val rfl (v_move rfl) ?_))))
              refine s_val rfl (v_fieldAddr rfl Tryz.underlying49 rfl Tryz.sizeOf47 rfl (by first | exact Nat.zero_add _ | rfl)) ?_
              refine s_val rfl (v_load Tryz.isAgg47 rfl (cell_own rfl)) ?_
              refine s_do rfl (d_call3 Tryz.call42 rfl (rvSave_spec W0 _ qv qs qm d0 f0 pg hP hF 128 (by decide) 4 p hgp)) ?_
              rintro _ B_ ⟨rfl, hB_⟩
              obtain rfl := hB_.symm
              refine x_nil (n_then (x_seq (x_region (s_do rfl (d_call Tryz.call91 rfl (qNew_spec W0 _)) ?_))))
              rintro _ B_ ⟨bq, rfl, hB_⟩
              obtain rfl := hB_.symm
              refine s_val rfl (v_assign rfl) (x_nil (n_then (x_seq (x_region (s_val rfl (v_build Tryz.underlying76 Tryz.zeroValue76 (sized_cons Tryz.sizeOf73 sized_nil) fil_nil) ?_)))))
              refine s_do rfl (d_boxA rfl) ?_
              rintro _ _ ⟨br, rfl, rfl⟩
              refine s_val rfl (v_assign rfl) (x_nil (n_then (x_seq (x_seq (run_pt (b := br) (o' := rqO qs0) rfl ?_)))))
              obtain ⟨hvF, hvL⟩ := vsvF_ok (pg := pg) (pa := 128) (w := 4) (x := p) hF
              rw [hFl] at hvL
              generalize vsvF f0 pg 128 4 p = f1 at hvF hvL ⊢
              generalize vsvD f0 pg 128 4 d0 = d1
              rw [← hvL] at hfit
              refine x_region (s_val rfl (v_move rfl) (s_val rfl (v_move rfl) (s_do rfl (d_call Tryz.call93 rfl (lies27_spec W0 _)) ?_)))
              rintro _ B_ ⟨rfl, hB_⟩
              obtain rfl := hB_.symm
              refine s_do rfl (d_call4 Tryz.call92 rfl (qLay_spec W0 _ bq pv ps pm d1 f1 pg hP qs0 ⟨0, 128, 192, ((4 : Nat) : Int)⟩ ⟨by decide, by decide, by decide⟩ hfit)) ?_
              rintro _ B_ ⟨rfl, hB_⟩
              obtain rfl := hB_.symm
              refine s_val rfl (v_neq rfl rfl) (s_val rfl (v_move rfl) ?_)
              refine s_or rfl rfl rfl ?_ ?_
              · intro g34_6
                exact absurd rfl g34_6
              · intro g34_6
                refine s_val rfl (v_move rfl) (s_yes rfl rfl (s_val rfl (v_move rfl) (s_yes rfl rfl (s_do rfl (d_call Tryz.call93 rfl (lies27_spec W0 _)) ?_))))
                rintro _ B_ ⟨rfl, hB_⟩
                obtain rfl := hB_.symm
                refine s_yes rfl rfl ?_
                refine s_do rfl (d_call4 Tryz.call94 rfl (rqLay_spec W0 _ br qv qs qm d1 f1 pg hP qs0 ⟨0, 128, 192, ((4 : Nat) : Int)⟩ ⟨by decide, by decide, by decide⟩ hfit)) ?_
                rintro _ B_ ⟨rfl, hB_⟩
                obtain rfl := hB_.symm
                refine s_yes rfl rfl (s_val rfl (v_neq rfl rfl) (s_val rfl (v_pick_f rfl rfl) (x_nil (n_then ?_))))
                refine x_if rfl ?_ ?_
                · intro c34
                  exact absurd rfl c34
                · intro c34
                  refine x_skip (n_then (x_seq (x_region (s_val rfl (v_move rfl) (s_val rfl (v_move rfl) (s_val rfl (v_move rfl) (s_val rfl (v_move rfl) (s_val rfl (v_assign rfl) (s_val rfl (v_assign rfl) (s_val rfl (v_assign rfl) (s_val rfl (v_assign rfl) (x_nil (n_then (x_ret (x_done (.inl rfl) (.cons (r_tmp rfl) (.cons (r_tmp rfl) (.cons (r_tmp rfl) (.cons (r_tmp rfl) .nil)))) ?_)))))))))))))))
                  exact ⟨_, ⟨pv, ps, pm, qv, qs, qm, bq, br, rfl, rfl⟩, inferInstance⟩
end Go.Proofs.YtlnmofhehcilhaaGreat
namespace Go.Proofs.YtlnmofhehcilhaaGreat
open Go.RowKit
set_option linter.unusedSimpArgs false
set_option linter.unusedVariables false
set_option maxRecDepth 20000
theorem svGo_ok {tx : Bool} {pg : List Pl} {port : Int} {len : Nat} {r : Rg3} : ∀ (k : Nat) {x : SvS}, SvOk len r x → SvOk len r (svGo tx pg port k x)
  | 0, x, h => h
  | k + 1, x, h => by
    have ho := (svSt_ok (tx := tx) (pg := pg) (port := port) h).1
    rw [svGo]; split
    · exact svGo_ok k ho
    · exact ho
theorem fit27 : fitB 8 (pg23 8) ⟨0, 128, 192, ((4 : Nat) : Int)⟩ = true := by decide +kernel
theorem r27_ok : Rg3.ok ⟨0, 128, 192, ((4 : Nat) : Int)⟩ := ⟨by decide, by decide, by decide⟩
theorem q27_ok : QOk q27 := ⟨fun _ => by show ((4 : Nat) : Int) = 2 ∨ ((4 : Nat) : Int) = 4 ∨ ((4 : Nat) : Int) = 8; decide, fun _ => by show (128 : Nat) ≤ 1000; decide, fun _ => by show (192 : Nat) ≤ 1000; decide, by decide, by decide⟩
theorem sv_start {fr : List Frm} {d : Nat} {ps : List Prt} {s : QS} (hs : QOk s) (hr : s.r = ⟨0, 128, 192, ((4 : Nat) : Int)⟩) (hF : Frs fr) (hl : fr.length = 8) (hd : d < 4096) (hp : PrS ps) : SvOk 8 ⟨0, 128, 192, ((4 : Nat) : Int)⟩ ⟨fr, d, s, ps, 0, 0, 0, 0⟩ := ⟨hF, hl, hd, hs, hr, hp⟩
end Go.Proofs.YtlnmofhehcilhaaGreat
namespace Go.Proofs.YtlnmofhehcilhaaGreat
open Go.RowKit
set_option linter.unusedSimpArgs false
set_option linter.unusedVariables false
set_option maxRecDepth 20000
@[reducible] def g27 (b1 b2 b3 b4 c n flags : Nat) (a : Option Addr) (bs : List Nat) : Gst := ⟨some ⟨b1, 0, none⟩, 1, [⟨320, n, flags, 0⟩], some ⟨b2, 0, none⟩, 1, [0], some ⟨b3, 0, none⟩, 1, [320], some ⟨b4, 0, none⟩, 1, [(a, c, bs)], 1⟩
@[reducible] def h27 (b1 b2 b3 b4 c n flags m : Nat) (a : Option Addr) (R : List HP) : List HP := pt b4 (cob [.slice a m c] 44) :: pt b3 (cob [.int .u32 320] 47) :: pt b2 (cob [.int .u8 0] 5) :: pt b1 (cob [.int .u32 320, .int .u32 n, .int .u32 flags, .int .u32 0] 99) :: R
theorem one27_spec (W0 : World) (R : List HP) (a : Option Addr) (c m n flags : Nat) (hn : n < 4294967296) :
    Spec Tryz.prog W0 97 [.slice a m c, .int .i64 n, .int .u32 flags] R
      (fun v B => ∃ b1 b2 b3 b4, v = .agg #[.slice (some ⟨b1, 0, none⟩) 1 1, .slice (some ⟨b2, 0, none⟩) 1 1, .slice (some ⟨b3, 0, none⟩) 1 1, .slice (some ⟨b4, 0, none⟩) 1 1, .int .u32 1] ∧ B = h27 b1 b2 b3 b4 c n flags m a R) := by
  refine spec_body Tryz.func97 Tryz.ntmps97 rfl rfl ?_
  refine x_seq (x_region (s_do rfl (d_allocA Tryz.zeroValue49) ?_))
  rintro _ _ ⟨b0, rfl, rfl⟩
  refine x_nil (n_then (x_seq (x_region (s_val rfl (v_move rfl) ?_))))
  refine s_val rfl (v_conv Tryz.underlying3 Tryz.underlying47 rfl (w32u (by omega))) ?_
  refine s_val rfl (v_move rfl) (s_val rfl (v_build Tryz.underlying99 Tryz.zeroValue99 (sized_cons Tryz.sizeOf47 (sized_cons Tryz.sizeOf47 (sized_cons Tryz.sizeOf47 (sized_cons Tryz.sizeOf47 sized_nil)))) (fil_scal rfl Tryz.sizeOf47 rfl rfl (Nat.le_of_ble_eq_true rfl) SetL.eq (fil_scal rfl Tryz.sizeOf47 rfl rfl (Nat.le_of_ble_eq_true rfl) SetL.eq (fil_scal rfl Tryz.sizeOf47 rfl rfl (Nat.le_of_ble_eq_true rfl) SetL.eq fil_nil)))) ?_)
  refine s_do rfl (d_sliceAgg Tryz.underlying43 Tryz.sizeOf99 Tryz.zeroValue99 rfl (elsK_cons rfl rfl elsK_nil) rfl (by decide) (by decide) (by decide)) ?_
  rintro _ _ ⟨b1, rfl, rfl⟩
  refine s_do rfl (d_sliceLit Tryz.underlying44 Tryz.sizeOf5 Tryz.zeroValue5 rfl rfl rfl rfl rfl (by decide) (by decide)) ?_
  rintro _ _ ⟨b2, rfl, rfl⟩
  refine s_do rfl (d_sliceLit Tryz.underlying45 Tryz.sizeOf47 Tryz.zeroValue47 rfl rfl rfl rfl rfl (by decide) (by decide)) ?_
  rintro _ _ ⟨b3, rfl, rfl⟩
  refine s_val rfl (v_move rfl) ?_
  refine s_do rfl (d_sliceLit Tryz.underlying46 Tryz.sizeOf44 Tryz.zeroValue44 rfl rfl rfl rfl rfl (by decide) (by decide)) ?_
  rintro _ _ ⟨b4, rfl, rfl⟩
  refine s_val rfl (v_build Tryz.underlying49 Tryz.zeroValue49 (sized_cons Tryz.sizeOf43 (sized_cons Tryz.sizeOf44 (sized_cons Tryz.sizeOf45 (sized_cons Tryz.sizeOf46 (sized_cons Tryz.sizeOf47 sized_nil))))) (fil_scal rfl Tryz.sizeOf43 rfl rfl (Nat.le_of_ble_eq_true rfl) SetL.eq (fil_scal rfl Tryz.sizeOf44 rfl rfl (Nat.le_of_ble_eq_true rfl) SetL.eq (fil_scal rfl Tryz.sizeOf45 rfl rfl (Nat.le_of_ble_eq_true rfl) SetL.eq (fil_scal rfl Tryz.sizeOf46 rfl rfl (Nat.le_of_ble_eq_true rfl) SetL.eq (fil_scal rfl Tryz.sizeOf47 rfl rfl (Nat.le_of_ble_eq_true rfl) SetL.eq fil_nil)))))) ?_
  refine s_do0 (d_storeAll Tryz.sizeOf49 rfl rfl rfl rfl rfl) ?_
  rintro _ _ rfl
  refine x_nil (n_then (x_ret (run_pt (b := b1) (o' := cob [.int .u32 320, .int .u32 n, .int .u32 flags, .int .u32 0] 99) rfl ?_)))
  refine x_done (.inl rfl) (.cons (r_all Tryz.isAgg49 Tryz.sizeOf49 rfl rfl) .nil) ?_
  exact ⟨_, ⟨b1, b2, b3, b4, rfl, rfl⟩, inferInstance⟩
theorem gok27 {W0 : World} {R : List HP} {b1 b2 b3 b4 c n flags m : Nat} {a : Option Addr} {bs : List Nat} (hm : bs.length = m) (hn : n < 4294967296) (hf : flags < 4294967296) (hs : SlA (OwnP W0 R) a 1 (fun x => [bV x]) bs) (hb : By bs) (hl : m < 9223372036854775808) :
    GOk (OwnP W0 (h27 b1 b2 b3 b4 c n flags m a R)) (g27 b1 b2 b3 b4 c n flags a bs) := by
  subst hm
  refine ⟨sla_cells (.inr ⟨b1, rfl⟩) (cells_all (b := b1)) (fun _ => rfl) rfl (by decide), fun d hd => ?_, sla_cells (.inr ⟨b2, rfl⟩) (cells_all (b := b2)) (fun _ => rfl) rfl (by decide), fun x hx => ?_,
    sla_cells (.inr ⟨b3, rfl⟩) (cells_all (b := b3)) (fun _ => rfl) rfl (by decide), fun x hx => ?_, sla_cells (.inr ⟨b4, rfl⟩) (cells_all (b := b4)) (fun _ => rfl) rfl (by decide), fun y hy => ?_, by show (1 : Nat) < _; decide, ⟨by show (1 : Nat) < _; decide, by show (1 : Nat) < _; decide, by show (1 : Nat) < _; decide, by show (1 : Nat) < _; decide⟩⟩
  · simp at hd; subst hd
    exact ⟨by show (320 : Nat) < _; decide, hn, hf, by show (0 : Nat) < _; decide⟩
  · simp at hx; subst hx; decide
  · simp at hx; subst hx; decide
  · simp at hy; subst hy
    exact ⟨hs.weak, hb, hl⟩
theorem mgA_cong {pg : List Pl} {g g' : Gst} (h1 : g.A = g'.A) (h2 : g.B.map (fun y => y.2.2) = g'.B.map (fun y => y.2.2)) : ∀ i, mgA pg g i = mgA pg g' i
  | 0 => rfl
  | i + 1 => by
    have e : ∀ l : List Bts, (l.getD i (none, 0, [])).2.2 = (l.map (fun y => y.2.2)).getD i [] := fun l => by
      simp only [List.getD, List.getElem?_map]
      cases l[i]? <;> rfl
    rw [mgA, mgA, mgA_cong h1 h2 i, h1, e, e, h2]
theorem mgD_cong {pg : List Pl} {g g' : Gst} (h1 : g.A = g'.A) (h2 : g.B.map (fun y => y.2.2) = g'.B.map (fun y => y.2.2)) (h3 : g.L = g'.L) : ∀ i, mgD pg g i = mgD pg g' i
  | 0 => by
    have hn : mgN g = mgN g' := by
      have := congrArg List.length h2
      rw [List.length_map, List.length_map] at this
      rw [mgN, mgN, this, h1]
    rw [mgD, mgD, hn]; exact mgA_cong h1 h2 _
  | i + 1 => by rw [mgD, mgD, mgD_cong h1 h2 h3 i, h3]
theorem mgH_cong {pg : List Pl} {g g' : Gst} (h1 : g.A = g'.A) (h2 : g.B.map (fun y => y.2.2) = g'.B.map (fun y => y.2.2)) (h3 : g.L = g'.L) (h4 : g.H = g'.H) : ∀ i, mgH pg g i = mgH pg g' i
  | 0 => by rw [mgH, mgH, h3]; exact mgD_cong h1 h2 h3 _
  | i + 1 => by rw [mgH, mgH, mgH_cong h1 h2 h3 h4 i, h4]
theorem mk27_cong {g g' : Gst} (h1 : g.A = g'.A) (h2 : g.B.map (fun y => y.2.2) = g'.B.map (fun y => y.2.2)) (h3 : g.L = g'.L) (h4 : g.H = g'.H) (h5 : g.p = g'.p) : mk27 g = mk27 g' := by
  rw [mk27, mk27, mgP, mgP, mgH_cong h1 h2 h3 h4, h4, h5]
@[reducible] def sv27 (x : List Frm × Nat) (ps : List Prt) : SvS := ⟨x.1, x.2, q27, ps, 0, 0, 0, 0⟩
def aw27Y : SvS := svGo true (pg23 8) 0 4 (sv27 (mk27 (g27 0 0 0 0 0 5 0 none [1, 0, 0, 0, 97])) (newP [(0, 0), (1, 1)]))
theorem aw27 : aw27Y.c = 1 ∧ aw27Y.n = 1 ∧ aw27Y.b = 5 ∧ aw27Y.w = 0 ∧ tkB aw27Y.ps 1 = true ∧ bL (tkV aw27Y.ps 1) = [97] := by decide +kernel
theorem nicTx27 (W0 : World) (R : List HP) (bq p pv ps_ pm : Nat) (port : Int) (x : List Frm × Nat) (hx : Mem8 x) (ps : List Prt) (hp : PrS ps) :
    Spec Tryz.prog W0 30 [.pointer (some ⟨pv, 0, none⟩), .pointer (some ⟨bq, 0, none⟩), .pointer (some ⟨p, 0, none⟩), .int .i64 port]
      (pt bq (qO true q27) :: pt pv (viO ps_ pm x.2) :: stoH ps_ x.1 :: pt pm (gmO (pg23 8)) :: portsH p ps :: R)
      (fun v B => ∃ y, y = svGo true (pg23 8) port 4 (sv27 x ps) ∧ v = .agg (SvS.v y).toArray ∧ B = pt bq (qO true y.s) :: pt pv (viO ps_ pm y.d) :: stoH ps_ y.fr :: pt pm (gmO (pg23 8)) :: portsH p y.ps :: R) :=
  nicTx_spec W0 R bq p pv ps_ pm (pg23 8) (pg23_ok 8) port x.1 x.2 0 128 192 4 0 0 true 0 ps (by decide) r27_ok 8 (sv_start q27_ok rfl hx.1 hx.2.1 hx.2.2 hp)
theorem awake27_spec (W0 : World) (R : List HP) : Spec Tryz.prog W0 27 [] R (fun v B => v = .bool true ∧ B = R) := by
  refine spec_body Tryz.func27 Tryz.ntmps27 rfl rfl ?_
  refine x_seq (x_region (s_val rfl (v_assign rfl) (x_nil (n_then (x_seq (x_region ?_))))))
  refine s_do rfl (d_sliceLit Tryz.underlying44 Tryz.sizeOf5 Tryz.zeroValue5 rfl rfl rfl rfl rfl (by decide) (by decide)) ?_
  rintro _ _ ⟨b9, rfl, rfl⟩
  refine s_do rfl (d_call Tryz.call97 rfl (one27_spec W0 _ (some ⟨b9, 0, none⟩) 5 5 5 0 (by decide))) ?_
  rintro _ B_ ⟨b1, b2, b3, b4, rfl, hB_⟩
  obtain rfl := hB_.symm
  refine s_do rfl (d_call Tryz.call24 rfl (made27_spec W0 _ (g27 b1 b2 b3 b4 5 5 0 (some ⟨b9, 0, none⟩) [1, 0, 0, 0, 97]) (gok27 rfl (by decide) (by decide) (sla_cells (.inr ⟨b9, rfl⟩) (cells_all (b := b9)) (fun _ => rfl) rfl (by decide)) (fun x hx => by simp at hx; omega) (by decide)) fit27)) ?_
  rintro _ B_ ⟨pv, ps, pm, qv, qs, qm, bq, br, rfl, hB_⟩
  obtain rfl := hB_.symm
  have hM := mk27_ok (g27 b1 b2 b3 b4 5 5 0 (some ⟨b9, 0, none⟩) [1, 0, 0, 0, 97])
  have hE : mk27 (g27 b1 b2 b3 b4 5 5 0 (some ⟨b9, 0, none⟩) [1, 0, 0, 0, 97]) = mk27 (g27 0 0 0 0 0 5 0 none [1, 0, 0, 0, 97]) := mk27_cong rfl rfl rfl rfl rfl
  rw [hE] at hM ⊢
  obtain ⟨x, hx⟩ : ∃ x, mk27 (g27 0 0 0 0 0 5 0 none [1, 0, 0, 0, 97]) = x := ⟨_, rfl⟩
  have hA := aw27
  rw [aw27Y, hx] at hA
  rw [hx] at hM ⊢
  refine s_val rfl (v_move rfl) (s_val rfl (v_extract rfl rfl) (s_val rfl (v_extract rfl rfl) (s_val rfl (v_extract rfl rfl) (s_val rfl (v_extract rfl rfl) (s_val rfl (v_assign rfl) (s_val rfl (v_assign rfl) (s_val rfl (v_assign rfl) (s_val rfl (v_assign rfl) (x_nil (n_then (x_seq (x_region (s_val rfl (v_build Tryz.underlying125 Tryz.zeroValue125 (sized_cons Tryz.sizeOf3 (sized_cons Tryz.sizeOf3 sized_nil)) (fil_scal rfl Tryz.sizeOf3 rfl rfl (Nat.le_of_ble_eq_true rfl) SetL.eq fil_nil)) ?_)))))))))))))
  refine s_val rfl (v_build Tryz.underlying125 Tryz.zeroValue125 (sized_cons Tryz.sizeOf3 (sized_cons Tryz.sizeOf3 sized_nil)) (fil_scal rfl Tryz.sizeOf3 rfl rfl (Nat.le_of_ble_eq_true rfl) SetL.eq (fil_scal rfl Tryz.sizeOf3 rfl rfl (Nat.le_of_ble_eq_true rfl) SetL.eq fil_nil))) ?_
  refine s_do rfl (d_sliceAgg Tryz.underlying24 Tryz.sizeOf125 Tryz.zeroValue125 rfl (elsK_cons rfl rfl (elsK_cons rfl rfl elsK_nil)) rfl (by decide) (by decide) (by decide)) ?_
  rintro _ _ ⟨bl, rfl, rfl⟩
  refine s_do rfl (d_call Tryz.call25 rfl (prNew_spec W0 _ [(0, 0), (1, 1)] (some ⟨bl, 0, none⟩) 2 2 rfl (by decide) (sla_cells (.inr ⟨bl, rfl⟩) (cells_all (b := bl)) (fun _ => rfl) rfl (by decide)) (by decide))) ?_
  rintro _ B_ ⟨p, rfl, hB_⟩
  obtain rfl := hB_.symm
  refine s_val rfl (v_move rfl) (s_val rfl (v_extract rfl rfl) (s_val rfl (v_extract rfl rfl) (s_val rfl (v_assign rfl) (s_val rfl (v_assign rfl) (x_nil (n_then (x_seq (x_seq (x_region (s_val rfl (v_move rfl) (s_val rfl (v_eql_ptr_nil Tryz.underlying51 rfl rfl) (s_val rfl (v_move rfl) ?_))))))))))))
  refine s_or rfl rfl rfl ?_ ?_
  · intro g3_3
    cases g3_3
  · intro g3_3
    refine s_val rfl (v_move rfl) (s_yes rfl rfl (s_val rfl (v_move rfl) (s_yes rfl rfl (s_val rfl (v_move rfl) (s_yes rfl rfl ?_)))))
    refine s_do rfl (d_call5 Tryz.call30 rfl (nicTx27 W0 _ bq p pv ps pm 0 x hM _ (newP_okS (by decide)))) ?_
    rintro _ B_ ⟨y, hy, rfl, hB_⟩
    obtain rfl := hB_.symm
    rw [← hy] at hA
    have hyo := svGo_ok (tx := true) (pg := pg23 8) (port := 0) 4 (sv_start q27_ok rfl hM.1 hM.2.1 hM.2.2 (newP_okS (l := [(0, 0), (1, 1)]) (by decide)))
    rw [← hy] at hyo
    obtain ⟨h1, h2, h3, h4, h5, h6⟩ := hA
    have hv : SvS.v y = [.int .i64 1, .int .i64 1, .int .i64 5, .int .i64 0] := by rw [SvS.v, h1, h2, h3, h4]; rfl
    rw [hv]
    refine s_yes rfl rfl (s_val rfl (v_build Tryz.underlying67 Tryz.zeroValue67 (sized_cons Tryz.sizeOf3 (sized_cons Tryz.sizeOf3 (sized_cons Tryz.sizeOf3 (sized_cons Tryz.sizeOf3 sized_nil)))) (fil_scal rfl Tryz.sizeOf3 rfl rfl (Nat.le_of_ble_eq_true rfl) SetL.eq (fil_scal rfl Tryz.sizeOf3 rfl rfl (Nat.le_of_ble_eq_true rfl) SetL.eq (fil_scal rfl Tryz.sizeOf3 rfl rfl (Nat.le_of_ble_eq_true rfl) SetL.eq fil_nil)))) ?_)
    refine s_yes rfl rfl (s_val rfl (v_neq_agg Tryz.eqGuardType67 rfl rfl (q_struct Tryz.underlying67 Tryz.stoodInHeld67 (qf_scal rfl Tryz.isAgg3 rfl rfl (q_int Tryz.underlying3) (qf_scal rfl Tryz.isAgg3 rfl rfl (q_int Tryz.underlying3) (qf_scal rfl Tryz.isAgg3 rfl rfl (q_int Tryz.underlying3) (qf_scal rfl Tryz.isAgg3 rfl rfl (q_int Tryz.underlying3) qf_nil)))))) ?_)
    refine s_val rfl (v_pick_f rfl rfl) (x_nil (n_then ?_))
    refine x_if rfl ?_ ?_
    · intro c3
      exact absurd c3 (by decide)
    · intro c3
      refine x_skip (n_then (x_seq (x_region (s_val rfl (v_move rfl) (s_do rfl (d_call1 Tryz.call98 rfl (prTake_spec W0 _ p y.ps hyo.ps.1 1)) ?_)))))
      rintro _ B_ ⟨rfl, hB_⟩
      obtain rfl := hB_.symm
      refine s_val rfl (v_move rfl) (s_val rfl (v_extract rfl rfl) (s_val rfl (v_extract rfl rfl) (s_val rfl (v_assign rfl) (s_val rfl (v_assign rfl) (x_nil (n_then (x_seq ?_)))))))
      have h7 : tkV y.ps 1 = ⟨#[97]⟩ := by rw [← strB_bL (tkV y.ps 1), h6]; rfl
      have h8 : ((tkV y.ps 1).toList == (⟨#[97]⟩ : ByteArray).toList) = true := by rw [h7]; exact beq_self_eq_true _
      refine x_region (s_val rfl (v_move rfl) (s_val rfl (v_eql_str rfl rfl) (s_val rfl (v_move rfl) ?_)))
      refine s_and rfl rfl rfl ?_ ?_
      · intro g6_3
        refine s_val rfl (v_move rfl) (s_val rfl (v_pick_t rfl rfl) (s_val rfl (v_assign rfl) (x_nil (n_then (x_ret (x_done (.inl rfl) (.cons (r_tmp rfl) .nil) ?_))))))
        refine ⟨_, ⟨?_, rfl⟩, inferInstance⟩
        rw [h5]; rfl
      · intro g6_3
        exact absurd h8 g6_3
end Go.Proofs.YtlnmofhehcilhaaGreat
namespace Go.Proofs.YtlnmofhehcilhaaGreat
open Go.RowKit
set_option linter.unusedSimpArgs false
set_option linter.unusedVariables false
set_option maxRecDepth 20000
theorem wr_one {fr : List Frm} {pg : List Pl} {pa : Nat} {bs : List Nat} {j : Nat} (hj : j < bs.length) (ho : ownB fr.length pg pa bs.length = true) : wrF (wrK fr pg pa bs j) pg (pa + j) [bs[j]] = wrK fr pg pa bs (j + 1) := by
  obtain ⟨h1, h2⟩ := ownB_nat.1 ho
  have hl : (wrK fr pg pa bs j).length = fr.length := by
    clear hj
    induction j with
    | zero => rfl
    | succ j ih => rw [wrK, svF_len, ih]
  have hg : bs.getD j 0 = bs[j] := by simp [List.getD, hj]
  have h3 : ownB (wrK fr pg pa bs j).length pg (pa + j) ([bs[j]].length : Nat) = true := by
    rw [hl, ownB_nat]
    exact ⟨by simp; omega, fun i hi => by rw [show pa + j + i = pa + j by simp at hi; omega]; exact h2 j hj⟩
  rw [wrF, if_pos h3]
  simp only [List.length_cons, List.length_nil, Nat.zero_add, wrK, Nat.add_zero, hg, List.getD_cons_zero]
theorem wr_oneD {fr : List Frm} {pg : List Pl} {pa d n j : Nat} {bs : List Nat} (hj : j < n) (ho : ownB fr.length pg pa n = true) : wrE (wrK fr pg pa bs j) pg (pa + j) (wrD d pa j) 1 = wrD d pa (j + 1) := by
  obtain ⟨h1, h2⟩ := ownB_nat.1 ho
  have hl : (wrK fr pg pa bs j).length = fr.length := by
    clear hj
    induction j with
    | zero => rfl
    | succ j ih => rw [wrK, svF_len, ih]
  have h3 : ownB (wrK fr pg pa bs j).length pg (pa + j) (1 : Nat) = true := by
    rw [hl, ownB_nat]
    exact ⟨by omega, fun i hi => by rw [show pa + j + i = pa + j by omega]; exact h2 j hj⟩
  rw [wrE, if_pos h3]
  simp only [wrD, Nat.add_zero]
theorem own_sub {len : Nat} {pg : List Pl} {pa n i k : Nat} (ho : ownB len pg pa n = true) (hk : i + k ≤ n) : ownB len pg (pa + i) k = true := by
  obtain ⟨h1, h2⟩ := ownB_nat.1 ho
  rw [ownB_nat]
  exact ⟨by omega, fun j hj => by rw [show pa + i + j = pa + (i + j) by omega]; exact h2 (i + j) (by omega)⟩
theorem drop_get {bs : List Nat} {dn k j : Nat} (h : j < ((bs.drop dn).take k).length) : ((bs.drop dn).take k)[j] = bs[dn + j]'(by rw [List.length_take, List.length_drop] at h; omega) := by
  simp [List.getElem_take, List.getElem_drop]
def skV (from_ : Int) (sk : Nat) : Int := if from_ < 0 then from_ else sk
theorem rcScatter_spec (W0 : World) (R : List HP) (qv qs qm d c cb : Nat) (a ab : Option Addr) (fr : List Frm) (pg : List Pl) (h : Pgs pg) (hF : Frs fr) (hd : d < 4096) (l : List Dsc) (hs : SlA (OwnP W0 R) a 4 dsV l) (hl : ∀ x ∈ l, x.ok) (hn : l.length ≤ 1000) (from_ : Int) (hf : -9223372036854775808 ≤ from_ ∧ from_ < 9223372036854775808)
    (bs : List Nat) (hb : By bs) (hsb : SlA (OwnP W0 R) ab 1 (fun x => [bV x]) bs) (hbl : bs.length < 9223372036854775808) :
    Spec Tryz.prog W0 117 [.pointer (some ⟨qv, 0, none⟩), .slice a l.length c, .int .i64 from_, .slice ab bs.length cb] (pt qv (rvO qs qm d) :: rstoH qs fr :: pt qm (rgO pg) :: R)
      (fun v B => v = .int .i64 ((scK fr pg d l from_ bs l.length).2.1 : Nat) ∧ B = pt qv (rvO qs qm (scK fr pg d l from_ bs l.length).2.2.2) :: rstoH qs (scK fr pg d l from_ bs l.length).2.2.1 :: pt qm (rgO pg) :: R) := by
  refine spec_body Tryz.func117 Tryz.ntmps117 rfl rfl ?_
  refine x_seq (x_region (s_val rfl (v_assign rfl) (x_nil (n_then (x_seq (x_region (s_val rfl (v_move rfl) (s_val rfl (v_assign rfl) (x_nil (n_then (x_seq (x_region (s_val rfl (v_assign rfl) (x_nil (n_then (x_seq (x_seq (x_region (s_val rfl (v_assign rfl) (x_nil (n_then (x_block ?_))))))))))))))))))))))
  refine x_loop (fun X : Nat × Int => X.1 ≤ l.length ∧ ((scK fr pg d l from_ bs X.1).2.1 = bs.length ∨ X.2 = skV from_ (scK fr pg d l from_ bs X.1).1)) (fun X => [(0, .pointer (some ⟨qv, 0, none⟩)), (1, .slice a l.length c), (3, .slice ab bs.length cb), (9, .int .i64 X.2), (10, .int .i64 ((scK fr pg d l from_ bs X.1).2.1 : Nat)), (11, .int .i64 X.1)]) (fun X => pt qv (rvO qs qm (scK fr pg d l from_ bs X.1).2.2.2) :: rstoH qs (scK fr pg d l from_ bs X.1).2.2.1 :: pt qm (rgO pg) :: R) (fun X => l.length - X.1) (0, from_) ?_ ?_ ?_ ?_
  · refine ⟨Nat.zero_le _, .inr ?_⟩
    simp only [skV, scK]; split <;> omega
  · repeat (first | exact sub_nil | refine sub_cons rfl ?_)
  · simp only [scK]; exact inferInstance
  · intro ⟨i, rs⟩ ⟨hi, hrs⟩
    have hok := scK_ok (pg := pg) (l := l) (from_ := from_) (bs := bs) hF hd i
    have hSS : scK fr pg d l from_ bs (i + 1) = scStep pg bs (l.getD i zD) (scK fr pg d l from_ bs i) := rfl
    have hend : ∀ hle : i = l.length, scK fr pg d l from_ bs l.length = scK fr pg d l from_ bs i := fun q => by rw [q]
    dsimp only at hi hrs ⊢
    generalize scK fr pg d l from_ bs i = s at hok hSS hend hrs ⊢
    obtain ⟨sk, dn, fi, di⟩ := s
    obtain ⟨hFi, hli, hdi, hdn, hsk⟩ := hok
    dsimp only at hFi hli hdi hdn hsk hrs ⊢
    refine x_seq (x_seq (x_region (s_val rfl (v_move rfl) (s_val rfl (v_move rfl) (s_val rfl (v_len_slice Tryz.underlying43 rfl) (s_val rfl (v_lss rfl rfl) (x_nil (n_then ?_))))))))
    refine x_if rfl ?_ ?_
    · intro c4
      refine x_skip (n_then (x_seq (x_block (x_seq (x_seq ?_)))))
      have hi1 : i < l.length := by omega
      obtain ⟨g, o, rfl, hc⟩ := hs.at_ hi1
      have hx := hl _ (List.getElem_mem hi1)
      have hgd : l.getD i zD = l[i] := by simp [List.getD, hi1]
      rw [hgd] at hSS
      generalize l[i] = x at hc hx hSS
      have ha := hx.addr
      have hle := hx.len
      refine x_draw [(g, o + i * 4, dsV x)] 22 mixed rfl (sc_cons hc.weak sc_end) (fun hS => ?_)
      refine d_take 0 rfl rfl (by kernel_rfl) (by kernel_rfl) (by kernel_rfl) rfl hS (v_move rfl) ?_
      refine d_take 1 rfl rfl (by kernel_rfl) (by kernel_rfl) (by kernel_rfl) rfl hS (v_move rfl) ?_
      refine d_take 2 rfl rfl (by kernel_rfl) (by kernel_rfl) (by kernel_rfl) rfl hS (v_idx Tryz.underlying43 Tryz.sizeOf99 rfl rfl rfl hi1 (by first | exact Nat.zero_add _ | rfl)) ?_
      refine d_take 3 rfl rfl (by kernel_rfl) (by kernel_rfl) (by kernel_rfl) rfl hS (v_loadAgg Tryz.isAgg99 Tryz.sizeOf99 rfl (cells_sc (k := 0) rfl) rfl) ?_
      refine d_one 4 (by kernel_rfl) rfl rfl (d_call Tryz.call191 rfl (rcWrites_spec W0 _ x hx)) rfl ?_; clear hS
      rintro _ B_ ⟨rfl, hB_⟩
      obtain rfl := hB_.symm
      refine ⟨(sc_cons hc.weak sc_end), fun hS => ?_⟩
      refine d_take 5 rfl rfl (by kernel_rfl) (by kernel_rfl) (by kernel_rfl) rfl hS (v_not rfl) ?_
      refine d_take 6 rfl rfl (by kernel_rfl) (by kernel_rfl) (by kernel_rfl) rfl hS (v_move rfl) ?_
      refine x_split (t := 26) rfl ?_ ?_
      · intro g6_7
        have hst : scK fr pg d l from_ bs (i + 1) = (sk, dn, fi, di) := by rw [hSS, scStep, if_neg (fun q => g6_7 q.1)]
        obtain ⟨rs', hrs'⟩ : ∃ y, y = rs := ⟨rs, rfl⟩
        have hI' : dn = bs.length ∨ rs' = skV from_ sk := by rw [hrs']; exact hrs
        refine d_skip 7 rfl rfl (by kernel_rfl) (by kernel_rfl) (by kernel_rfl) rfl hS ?_
        refine d_skip 8 rfl rfl (by kernel_rfl) (by kernel_rfl) (by kernel_rfl) rfl hS ?_
        refine d_skip 9 rfl rfl (by kernel_rfl) (by kernel_rfl) (by kernel_rfl) rfl hS ?_
        refine d_skip 10 rfl rfl (by kernel_rfl) (by kernel_rfl) (by kernel_rfl) rfl hS ?_
        refine d_skip 11 rfl rfl (by kernel_rfl) (by kernel_rfl) (by kernel_rfl) rfl hS ?_
        refine d_skip 12 rfl rfl (by kernel_rfl) (by kernel_rfl) (by kernel_rfl) rfl hS ?_
        refine d_skip 13 rfl rfl (by kernel_rfl) (by kernel_rfl) (by kernel_rfl) rfl hS ?_
        refine d_skip 14 rfl rfl (by kernel_rfl) (by kernel_rfl) (by kernel_rfl) rfl hS ?_
        refine d_skip 15 rfl rfl (by kernel_rfl) (by kernel_rfl) (by kernel_rfl) rfl hS ?_
        refine d_skip 16 rfl rfl (by kernel_rfl) (by kernel_rfl) (by kernel_rfl) rfl hS ?_
        refine d_skip 17 rfl rfl (by kernel_rfl) (by kernel_rfl) (by kernel_rfl) rfl hS ?_
        refine d_skip 18 rfl rfl (by kernel_rfl) (by kernel_rfl) (by kernel_rfl) rfl hS ?_
        refine d_skip 19 rfl rfl (by kernel_rfl) (by kernel_rfl) (by kernel_rfl) rfl hS ?_
        refine d_skip 20 rfl rfl (by kernel_rfl) (by kernel_rfl) (by kernel_rfl) rfl hS ?_
        refine d_take 21 rfl rfl (by kernel_rfl) (by kernel_rfl) (by kernel_rfl) rfl hS (v_pick_t rfl rfl) ?_
        refine d_done (by kernel_rfl) ?_; clear hS
        refine n_then (x_ift rfl (x_exit (e_then (e_block (n_then (x_region (s_val rfl (v_move rfl) ?_)))))))
        refine s_val rfl (v_add rfl rfl (by first | exact w64 (by omega) | rfl)) ?_
        refine s_val rfl (v_assign rfl) (x_nil (n_then ?_))
        refine inv_intro (i + 1, rs') ?_ ?_ ?_ ?_
        · rw [hst]; exact ⟨by omega, hI'⟩
        · omega
        · dsimp only
          rw [hst, hrs']; repeat (first | exact sub_nil | refine sub_cons rfl ?_)
        · dsimp only
          rw [hst]; exact inferInstance
      · intro g6_7
        refine d_take 7 rfl rfl (by kernel_rfl) (by kernel_rfl) (by kernel_rfl) rfl hS (v_move rfl) ?_
        refine d_take 8 rfl rfl (by kernel_rfl) (by kernel_rfl) (by kernel_rfl) rfl hS (v_move rfl) ?_
        refine d_take 9 rfl rfl (by kernel_rfl) (by kernel_rfl) (by kernel_rfl) rfl hS (v_move rfl) ?_
        refine d_take 10 rfl rfl (by kernel_rfl) (by kernel_rfl) (by kernel_rfl) rfl hS (v_idx Tryz.underlying43 Tryz.sizeOf99 rfl rfl rfl hi1 (by first | exact Nat.zero_add _ | rfl)) ?_
        refine d_take 11 rfl rfl (by kernel_rfl) (by kernel_rfl) (by kernel_rfl) rfl hS (v_fieldAddr rfl Tryz.underlying99 rfl Tryz.sizeOf47 rfl (by first | exact Nat.zero_add _ | rfl)) ?_
        refine d_take 12 rfl rfl (by kernel_rfl) (by kernel_rfl) (by kernel_rfl) rfl hS (v_load Tryz.isAgg47 rfl (cell_sc (k := 0) (j := 0) rfl rfl)) ?_
        refine d_take 13 rfl rfl (by kernel_rfl) (by kernel_rfl) (by kernel_rfl) rfl hS (v_move rfl) ?_
        refine d_take 14 rfl rfl (by kernel_rfl) (by kernel_rfl) (by kernel_rfl) rfl hS (v_move rfl) ?_
        refine d_take 15 rfl rfl (by kernel_rfl) (by kernel_rfl) (by kernel_rfl) rfl hS (v_idx Tryz.underlying43 Tryz.sizeOf99 rfl rfl rfl hi1 (by first | exact Nat.zero_add _ | rfl)) ?_
        refine d_take 16 rfl rfl (by kernel_rfl) (by kernel_rfl) (by kernel_rfl) rfl hS (v_fieldAddr rfl Tryz.underlying99 rfl Tryz.sizeOf47 rfl (by first | exact Nat.zero_add _ | rfl)) ?_
        refine d_take 17 rfl rfl (by kernel_rfl) (by kernel_rfl) (by kernel_rfl) rfl hS (v_load Tryz.isAgg47 rfl (cell_sc (k := 0) (j := 1) rfl rfl)) ?_
        refine d_take 18 rfl rfl (by kernel_rfl) (by kernel_rfl) (by kernel_rfl) rfl hS (v_conv Tryz.underlying47 Tryz.underlying3 rfl (w64 (by omega))) ?_
        refine d_one 19 (by kernel_rfl) rfl rfl (d_call3 Tryz.call177 rfl (rvOwn_spec W0 _ qv qs qm di fi pg h x.addr ha x.len)) rfl ?_; clear hS
        rintro _ B_ ⟨rfl, hB_⟩
        obtain rfl := hB_.symm
        refine ⟨(sc_cons hc.weak sc_end), fun hS => ?_⟩
        refine d_take 20 rfl rfl (by kernel_rfl) (by kernel_rfl) (by kernel_rfl) rfl hS (v_not rfl) ?_
        refine d_take 21 rfl rfl (by kernel_rfl) (by kernel_rfl) (by kernel_rfl) rfl hS (v_pick_f rfl rfl) ?_
        refine d_done (by kernel_rfl) ?_; clear hS
        refine n_then ?_
        refine x_if rfl ?_ ?_
        · intro c6
          have hst : scK fr pg d l from_ bs (i + 1) = (sk, dn, fi, di) := by rw [hSS, scStep, if_neg (fun q => c6 q.2)]
          obtain ⟨rs', hrs'⟩ : ∃ y, y = rs := ⟨rs, rfl⟩
          have hI' : dn = bs.length ∨ rs' = skV from_ sk := by rw [hrs']; exact hrs
          refine x_exit (e_then (e_block (n_then (x_region (s_val rfl (v_move rfl) ?_)))))
          refine s_val rfl (v_add rfl rfl (by first | exact w64 (by omega) | rfl)) ?_
          refine s_val rfl (v_assign rfl) (x_nil (n_then ?_))
          refine inv_intro (i + 1, rs') ?_ ?_ ?_ ?_
          · rw [hst]; exact ⟨by omega, hI'⟩
          · omega
          · dsimp only
            rw [hst, hrs']; repeat (first | exact sub_nil | refine sub_cons rfl ?_)
          · dsimp only
            rw [hst]; exact inferInstance
        · intro c6
          have hw : wrB x = true := by simpa using g6_7
          have ho : ownB fi.length pg x.addr x.len = true := by simpa using c6
          have hst : scK fr pg d l from_ bs (i + 1) = (sk - min sk x.len, dn + min (x.len - min sk x.len) (bs.length - dn), wrF fi pg (x.addr + min sk x.len) ((bs.drop dn).take (min (x.len - min sk x.len) (bs.length - dn))), wrE fi pg (x.addr + min sk x.len) di (min (x.len - min sk x.len) (bs.length - dn))) := by rw [hSS, scStep, if_pos ⟨hw, ho⟩]
          have h512 := (ownB_nat.1 ho).1
          obtain ⟨ah, hah⟩ : ∃ y, min sk x.len = y := ⟨_, rfl⟩
          rw [hah] at hst
          obtain ⟨kk, hkk⟩ : ∃ y, min (x.len - ah) (bs.length - dn) = y := ⟨_, rfl⟩
          rw [hkk] at hst
          have hosub : ownB fi.length pg (x.addr + ah) kk = true := own_sub ho (by omega)
          obtain ⟨bk, hbk⟩ : ∃ y, (bs.drop dn).take kk = y := ⟨_, rfl⟩
          have hbkl : bk.length = kk := by rw [← hbk, List.length_take, List.length_drop]; omega
          rw [hbk, wrF, hbkl, if_pos hosub, wrE, if_pos hosub] at hst
          refine x_skip (n_then (x_seq (x_region (s_val rfl (v_assign rfl) (x_nil (n_then (x_block ?_)))))))
          refine x_loop (fun Y : Nat × Int × Nat => Y.1 ≤ x.len ∧ Y.2.2 ≤ kk ∧ (dn = bs.length ∨ (Y.2.2 = Y.1 - ah ∧ Y.2.1 = skV from_ (sk - Y.1)))) (fun Y => [(0, .pointer (some ⟨qv, 0, none⟩)), (1, .slice (some ⟨g, o, none⟩) l.length c), (3, .slice ab bs.length cb), (9, .int .i64 Y.2.1), (10, .int .i64 (dn + Y.2.2 : Nat)), (11, .int .i64 i), (12, .int .i64 Y.1)]) (fun Y => pt qv (rvO qs qm (wrD di (x.addr + ah) Y.2.2)) :: rstoH qs (wrK fi pg (x.addr + ah) bk Y.2.2) :: pt qm (rgO pg) :: R) (fun Y => x.len - Y.1) (0, rs, 0) ?_ ?_ ?_ ?_
          · refine ⟨Nat.zero_le _, Nat.zero_le _, ?_⟩
            rcases hrs with q | q
            · exact .inl q
            · exact .inr ⟨by simp, by simpa using q⟩
          · repeat (first | exact sub_nil | refine sub_cons rfl ?_)
          · simp only [wrD, wrK]; exact inferInstance
          · intro ⟨k, rk, j⟩ ⟨hk1, hj1, hkI⟩
            dsimp only at hk1 hj1 hkI ⊢
            refine x_seq (x_seq (x_region (s_val rfl (v_move rfl) (s_val rfl (v_move rfl) (s_val rfl (v_move rfl) ?_)))))
            refine s_val rfl (v_idx Tryz.underlying43 Tryz.sizeOf99 rfl rfl rfl hi1 (by first | exact Nat.zero_add _ | rfl)) ?_
            refine s_val rfl (v_fieldAddr rfl Tryz.underlying99 rfl Tryz.sizeOf47 rfl (by first | exact Nat.zero_add _ | rfl)) ?_
            refine s_val rfl (v_load Tryz.isAgg47 rfl (Cells.weak hc 1 _ rfl)) ?_
            refine s_val rfl (v_conv Tryz.underlying47 Tryz.underlying3 rfl (w64 (by omega))) ?_
            refine s_val rfl (v_lss rfl rfl) (s_val rfl (v_move rfl) ?_)
            refine s_and rfl rfl rfl ?_ ?_
            · intro g8_9
              refine s_val rfl (v_move rfl) (s_yes rfl rfl (s_val rfl (v_move rfl) (s_yes rfl rfl (s_val rfl (v_len_slice Tryz.underlying44 rfl) (s_yes rfl rfl (s_val rfl (v_lss rfl rfl) (s_val rfl (v_pick_t rfl rfl) (x_nil (n_then ?_)))))))))
              refine x_if rfl ?_ ?_
              · intro c8
                refine x_skip (n_then (x_seq (x_block (x_seq ?_))))
                have hklt : k < x.len := by omega
                have hdlt : dn + j < bs.length := by omega
                obtain ⟨hq2, hq3⟩ : j = k - ah ∧ rk = skV from_ (sk - k) := by
                  rcases hkI with q | q
                  · omega
                  · exact q
                have hskb : skV from_ (sk - k) ≤ max from_ 0 ∧ min from_ 0 ≤ skV from_ (sk - k) := by unfold skV; split <;> omega
                refine x_region (s_val rfl (v_move rfl) (s_val rfl (v_gtr rfl rfl) (x_nil (n_then ?_))))
                refine x_if rfl ?_ ?_
                · intro c10
                  have hska : 0 ≤ from_ ∧ k < sk := by rw [hq3] at c10; unfold skV at c10; split at c10 <;> omega
                  have hnx : rk - 1 = skV from_ (sk - (k + 1)) := by rw [hq3]; unfold skV; rw [if_neg (by omega), if_neg (by omega)]; omega
                  obtain ⟨j', hj'⟩ : ∃ y, y = j := ⟨j, rfl⟩
                  obtain ⟨rk', hrk'⟩ : ∃ y, y = rk - 1 := ⟨_, rfl⟩
                  have hI1 : j' ≤ kk ∧ j' = (k + 1) - ah ∧ rk' = skV from_ (sk - (k + 1)) := ⟨by omega, by omega, by rw [hrk']; exact hnx⟩
                  refine x_region (s_val rfl (v_move rfl) ?_)
                  refine s_val rfl (v_sub rfl rfl (w64 (by omega))) ?_
                  refine s_val rfl (v_assign rfl) (x_nil (n_block (n_then (x_region (s_val rfl (v_move rfl) ?_)))))
                  refine s_val rfl (v_add rfl rfl (by first | exact w64 (by omega) | rfl)) ?_
                  refine s_val rfl (v_assign rfl) (x_nil (n_then ?_))
                  refine inv_intro (k + 1, rk', j') ?_ ?_ ?_ ?_
                  · exact ⟨by omega, hI1.1, .inr ⟨hI1.2.1, hI1.2.2⟩⟩
                  · omega
                  · dsimp only
                    rw [hj', hrk']; repeat (first | exact sub_nil | refine sub_cons rfl ?_)
                  · dsimp only
                    rw [hj']; exact inferInstance
                · intro c10
                  have hska : from_ < 0 ∨ sk ≤ k := by rw [hq3] at c10; unfold skV at c10; split at c10 <;> omega
                  have hsz : from_ < 0 → sk = 0 := fun q => by omega
                  have hjk : j < kk := by omega
                  have hax : x.addr + k = x.addr + ah + j := by omega
                  have hnx : rk = skV from_ (sk - (k + 1)) := by rw [hq3]; unfold skV; split <;> omega
                  obtain ⟨gb, ob, rfl, hcb⟩ := hsb.at_ hdlt
                  have hb8 : bs[dn + j] < 256 := hb.get hdlt
                  have hFk := (wrK_ok (pg := pg) (pa := x.addr + ah) (bs := bk) hFi j).1
                  have hbj : bk[j]'(by omega) = bs[dn + j] := by
                    have : ∀ y (hy : (bs.drop dn).take kk = y) (hj : j < y.length), y[j] = bs[dn + j] := by
                      intro y hy hj; subst hy; exact drop_get hj
                    exact this bk hbk (by omega)
                  have hw1 := wr_one (fr := fi) (pg := pg) (pa := x.addr + ah) (bs := bk) (j := j) (by omega) (by rw [hbkl]; exact hosub)
                  have hw2 := wr_oneD (fr := fi) (pg := pg) (pa := x.addr + ah) (d := di) (n := kk) (j := j) (bs := bk) hjk hosub
                  rw [hbj] at hw1
                  obtain ⟨j', hj'⟩ : ∃ y, y = j + 1 := ⟨_, rfl⟩
                  obtain ⟨rk', hrk'⟩ : ∃ y, y = rk := ⟨_, rfl⟩
                  have hI1 : j' ≤ kk ∧ j' = (k + 1) - ah ∧ rk' = skV from_ (sk - (k + 1)) := ⟨by omega, by omega, by rw [hrk']; exact hnx⟩
                  refine x_seq ?_
                  refine x_draw [(g, o + i * 4, dsV x), (gb, ob + (dn + j) * 1, [bV bs[dn + j]])] 15 mixed rfl (sc_cons hc.weak (sc_cons hcb.weak sc_end)) (fun hS => ?_)
                  refine d_take 0 rfl rfl (by kernel_rfl) (by kernel_rfl) (by kernel_rfl) rfl hS (v_move rfl) ?_
                  refine d_take 1 rfl rfl (by kernel_rfl) (by kernel_rfl) (by kernel_rfl) rfl hS (v_move rfl) ?_
                  refine d_take 2 rfl rfl (by kernel_rfl) (by kernel_rfl) (by kernel_rfl) rfl hS (v_move rfl) ?_
                  refine d_take 3 rfl rfl (by kernel_rfl) (by kernel_rfl) (by kernel_rfl) rfl hS (v_idx Tryz.underlying43 Tryz.sizeOf99 rfl rfl rfl hi1 (by first | exact Nat.zero_add _ | rfl)) ?_
                  refine d_take 4 rfl rfl (by kernel_rfl) (by kernel_rfl) (by kernel_rfl) rfl hS (v_fieldAddr rfl Tryz.underlying99 rfl Tryz.sizeOf47 rfl (by first | exact Nat.zero_add _ | rfl)) ?_
                  refine d_take 5 rfl rfl (by kernel_rfl) (by kernel_rfl) (by kernel_rfl) rfl hS (v_load Tryz.isAgg47 rfl (cell_sc (k := 0) (j := 0) rfl rfl)) ?_
                  refine d_take 6 rfl rfl (by kernel_rfl) (by kernel_rfl) (by kernel_rfl) rfl hS (v_move rfl) ?_
                  refine d_take 7 rfl rfl (by kernel_rfl) (by kernel_rfl) (by kernel_rfl) rfl hS (v_conv Tryz.underlying3 Tryz.underlying47 rfl (w32u (by omega))) ?_
                  refine d_take 8 rfl rfl (by kernel_rfl) (by kernel_rfl) (by kernel_rfl) rfl hS (v_add rfl rfl (by rw [w32u (by omega)]; omega : IntKind.wrap .u32 ((x.addr : Int) + (k : Int)) = ((x.addr + ah + j : Nat) : Int))) ?_
                  refine d_take 9 rfl rfl (by kernel_rfl) (by kernel_rfl) (by kernel_rfl) rfl hS (v_move rfl) ?_
                  refine d_take 10 rfl rfl (by kernel_rfl) (by kernel_rfl) (by kernel_rfl) rfl hS (v_move rfl) ?_
                  refine d_take 11 rfl rfl (by kernel_rfl) (by kernel_rfl) (by kernel_rfl) rfl hS (v_idx Tryz.underlying44 Tryz.sizeOf5 rfl rfl rfl hdlt (by first | exact Nat.zero_add _ | rfl)) ?_
                  refine d_take 12 rfl rfl (by kernel_rfl) (by kernel_rfl) (by kernel_rfl) rfl hS (v_load Tryz.isAgg5 rfl (cell_sc1 (k := 1) rfl)) ?_
                  refine d_one 13 (by kernel_rfl) rfl rfl (d_sliceLit Tryz.underlying44 Tryz.sizeOf5 Tryz.zeroValue5 rfl rfl rfl rfl rfl (by decide) (by decide)) rfl ?_; clear hS
                  rintro _ _ ⟨b1, rfl, rfl⟩
                  refine ⟨(sc_cons hc.weak (sc_cons hcb.weak sc_end)), fun hS => ?_⟩
                  refine d_one 14 (by kernel_rfl) rfl rfl (d_call3 Tryz.call89 rfl (rvWriteN_spec W0 _ qv qs qm _ _ 1 _ _ pg h hFk (x.addr + ah + j) (by omega) [bs[dn + j]] rfl (fun b hb => by have := List.mem_singleton.1 hb; omega) (sla_pt (fun _ => rfl) rfl) (by decide))) rfl ?_; clear hS
                  rintro _ B_ ⟨rfl, hB_⟩
                  obtain rfl := hB_.symm
                  rw [hw1, hw2]
                  refine ⟨(sc_cons hc.weak (sc_cons hcb.weak sc_end)), fun hS => ?_⟩
                  refine d_done (by kernel_rfl) ?_; clear hS
                  refine n_then (x_region (s_val rfl (v_move rfl) ?_))
                  refine s_val rfl (v_add rfl rfl (by rw [w64 (by omega)]; omega : IntKind.wrap .i64 (((dn + j : Nat) : Int) + 1) = ((dn + (j + 1) : Nat) : Int))) ?_
                  refine s_val rfl (v_assign rfl) (x_nil (n_block (n_then (x_region (s_val rfl (v_move rfl) ?_)))))
                  refine s_val rfl (v_add rfl rfl (by first | exact w64 (by omega) | rfl)) ?_
                  refine s_val rfl (v_assign rfl) (x_nil (n_then ?_))
                  refine inv_intro (k + 1, rk', j') ?_ ?_ ?_ ?_
                  · exact ⟨by omega, hI1.1, .inr ⟨hI1.2.1, hI1.2.2⟩⟩
                  · omega
                  · dsimp only
                    rw [hj', hrk']; repeat (first | exact sub_nil | refine sub_cons rfl ?_)
                  · dsimp only
                    rw [hj']; exact inferInstance
              · intro c8
                have hjkk : j = kk := by rcases hkI with q | q <;> omega
                rw [← hjkk] at hst
                obtain ⟨rs', hrs'⟩ : ∃ y, y = rk := ⟨_, rfl⟩
                have hI' : dn + j = bs.length ∨ rs' = skV from_ (sk - ah) := by
                  rw [hrs']
                  left; omega
                refine x_exit (e_then (e_then (e_block (n_block (n_then (x_region (s_val rfl (v_move rfl) ?_)))))))
                refine s_val rfl (v_add rfl rfl (by first | exact w64 (by omega) | rfl)) ?_
                refine s_val rfl (v_assign rfl) (x_nil (n_then ?_))
                refine inv_intro (i + 1, rs') ?_ ?_ ?_ ?_
                · rw [hst]; exact ⟨by omega, hI'⟩
                · omega
                · dsimp only
                  rw [hst, hrs']; repeat (first | exact sub_nil | refine sub_cons rfl ?_)
                · dsimp only
                  rw [hst]; exact inferInstance
            · intro g8_9
              have hjkk : j = kk := by rcases hkI with q | q <;> omega
              rw [← hjkk] at hst
              obtain ⟨rs', hrs'⟩ : ∃ y, y = rk := ⟨_, rfl⟩
              have hI' : dn + j = bs.length ∨ rs' = skV from_ (sk - ah) := by
                rw [hrs']
                rcases hkI with q | q
                · left; omega
                · right; rw [q.2]; congr 1; omega
              refine s_no rfl rfl rfl rfl (s_no rfl rfl rfl rfl (s_no rfl rfl rfl rfl (s_val rfl (v_pick_f rfl rfl) (x_nil (n_then (x_iff rfl (x_exit (e_then (e_then (e_block (n_block (n_then (x_region (s_val rfl (v_move rfl) ?_))))))))))))))
              refine s_val rfl (v_add rfl rfl (by first | exact w64 (by omega) | rfl)) ?_
              refine s_val rfl (v_assign rfl) (x_nil (n_then ?_))
              refine inv_intro (i + 1, rs') ?_ ?_ ?_ ?_
              · rw [hst]; exact ⟨by omega, hI'⟩
              · omega
              · dsimp only
                rw [hst, hrs']; repeat (first | exact sub_nil | refine sub_cons rfl ?_)
              · dsimp only
                rw [hst]; exact inferInstance
    · intro c4
      refine x_exit (e_then (e_then (e_block (n_then (x_seq (x_region (s_val rfl (v_move rfl) (s_val rfl (v_assign rfl) (x_nil (n_then (x_ret (x_done (.inl rfl) (.cons (r_tmp rfl) .nil) ?_))))))))))))
      have e1 := hend (by omega)
      rw [e1]
      exact ⟨_, ⟨rfl, rfl⟩, inferInstance⟩
end Go.Proofs.YtlnmofhehcilhaaGreat
namespace Go.Proofs.YtlnmofhehcilhaaGreat
open Go.RowKit
set_option linter.unusedSimpArgs false
set_option linter.unusedVariables false
set_option maxRecDepth 20000
def OwD (fr : List Frm) (pg : List Pl) (d : Dsc) : Prop := ownB fr.length pg d.addr d.len = true
theorem lk_own {fr : List Frm} {pg : List Pl} {r : Rg3} {at_ : Int} {n : Nat} {wr : Bool} (h : (lk fr pg r at_ n wr).2 = 0) : OwD fr pg (lk fr pg r at_ n wr).1 := by
  unfold lk at h ⊢
  by_cases q1 : at_ < 0 ∨ r.n ≤ at_
  · rw [if_pos q1] at h; exact absurd h (by decide)
  rw [if_neg q1] at h ⊢
  by_cases q2 : r.n ≤ (n : Int)
  · rw [if_pos q2] at h; exact absurd h (by decide)
  rw [if_neg q2] at h ⊢
  by_cases q3 : ownB fr.length pg (dsPa r at_.toNat) 16 = false
  · rw [if_pos q3] at h; exact absurd h (by decide)
  rw [if_neg q3] at h ⊢
  by_cases q4 : chkC (dsAt fr pg r at_.toNat) r.n.toNat ≠ 0
  · rw [if_pos q4] at h; exact absurd h q4
  rw [if_neg q4] at h ⊢
  by_cases q5 : ownB fr.length pg (dsAt fr pg r at_.toNat).addr (dsAt fr pg r at_.toNat).len = false
  · rw [if_pos q5] at h; exact absurd h (by decide)
  rw [if_neg q5] at h ⊢
  by_cases q6 : wr = true ∧ wrB (dsAt fr pg r at_.toNat) = false
  · rw [if_pos q6] at h; exact absurd h (by decide)
  rw [if_neg q6]
  exact (by simpa using q5 : ownB fr.length pg (dsAt fr pg r at_.toNat).addr (dsAt fr pg r at_.toNat).len = true)
theorem wkSt_own {fr : List Frm} {pg : List Pl} {r : Rg3} {head : Int} : ∀ n, (∀ m, m < n → (lkN fr pg r head m).2 = 0) → ∀ d ∈ (wkSt fr pg r head n).2.2, OwD fr pg d
  | 0, _, d, hd => by simp [wkSt] at hd
  | n + 1, h, d, hd => by
    rw [wkSt] at hd
    rcases List.mem_append.1 hd with q | q
    · exact wkSt_own n (fun m hm => h m (by omega)) d q
    · simp only [List.mem_singleton] at q
      rw [q]; exact lk_own (h n (by omega))
theorem wkGo_own {fr : List Frm} {pg : List Pl} {r : Rg3} {head : Int} : ∀ f n, (∀ m, m < n → (lkN fr pg r head m).2 = 0) → ∀ d ∈ (wkGo fr pg r head f n).1, OwD fr pg d
  | 0, n, _, d, hd => by simp [wkGo] at hd
  | f + 1, n, h, d, hd => by
    rw [wkGo] at hd
    by_cases q1 : (lkN fr pg r head n).2 ≠ 0
    · rw [if_pos q1] at hd; simp at hd
    · rw [if_neg q1] at hd
      have h' : ∀ m, m < n + 1 → (lkN fr pg r head m).2 = 0 := fun m hm => by
        rcases Nat.lt_or_ge m n with q | q
        · exact h m q
        · rw [show m = n by omega]; exact Decidable.not_not.1 q1
      by_cases q2 : goB (lkN fr pg r head n).1 = true
      · rw [if_pos q2] at hd; exact wkGo_own f (n + 1) h' d hd
      · rw [if_neg q2] at hd; exact wkSt_own (n + 1) h' d hd
theorem tk_own {fr : List Frm} {pg : List Pl} {s : QS} : ∀ d ∈ (tkR fr pg s).2.1, OwD fr pg d := by
  intro d hd
  unfold tkR tkL wkAll at hd
  repeat' split at hd
  all_goals first | (simp at hd; done) | exact wkGo_own 9 0 (fun m hm => absurd hm (Nat.not_lt_zero m)) d hd
def totK (l : List Dsc) : Nat → Nat
  | 0 => 0
  | k + 1 => totK l k + (if wrB (l.getD k zD) then 0 else (l.getD k zD).len)
theorem totK_lenW (l : List Dsc) : ∀ k, k ≤ l.length → totK l k = lenW (l.take k) false
  | 0, _ => by simp [totK, lenW]
  | k + 1, h => by
    rw [totK, totK_lenW l k (by omega), List.take_succ_eq_append_getElem (show k < l.length by omega), lenW, lenW, List.map_append, List.sum_append, show l.getD k zD = l[k] by simp [List.getD, show k < l.length by omega]]
    cases q : wrB l[k] <;> simp [q]
theorem totK_all (l : List Dsc) : totK l l.length = lenW l false := by rw [totK_lenW l l.length (Nat.le_refl _), List.take_of_length_le (Nat.le_refl _)]
theorem own_512 {fr : List Frm} {pg : List Pl} {d : Dsc} (h : OwD fr pg d) : d.len ≤ 512 := by have := (ownB_nat.1 h).1; omega
theorem totK_le {fr : List Frm} {pg : List Pl} {l : List Dsc} (h : ∀ d ∈ l, OwD fr pg d) : ∀ k, k ≤ l.length → totK l k ≤ 512 * k
  | 0, _ => by simp [totK]
  | k + 1, hk => by
    have ih := totK_le h k (by omega)
    have := own_512 (h _ (List.getElem_mem (show k < l.length by omega)))
    rw [totK, show l.getD k zD = l[k]'(by omega) by simp [List.getD, show k < l.length by omega]]
    split <;> omega
theorem gth_all {fr : List Frm} {pg : List Pl} {l : List Dsc} (h : ∀ d ∈ l, OwD fr pg d) (m M : Nat) : ∀ k, k ≤ l.length → totK l k ≤ m → totK l k ≤ M → (gthK fr pg l m k).length = totK l k ∧ gthK fr pg l m k = gthK fr pg l M k
  | 0, _, _, _ => ⟨rfl, rfl⟩
  | k + 1, hk, h1, h2 => by
    rw [totK] at h1 h2
    obtain ⟨e1, e2⟩ := gth_all h m M k (by omega) (by omega) (by omega)
    have ho := h _ (List.getElem_mem (show k < l.length by omega))
    rw [show l[k]'(by omega) = l.getD k zD by simp [List.getD, show k < l.length by omega]] at ho
    rw [gthK, gthK, totK]
    by_cases q : wrB (l.getD k zD) = true
    · simp only [if_pos q]; exact ⟨by rw [e1]; rfl, e2⟩
    · rw [if_neg q] at h1 h2 ⊢
      simp only [if_neg q]
      have hr : (rdO fr pg (l.getD k zD).addr (l.getD k zD).len).length = (l.getD k zD).len := by
        rw [rdO, if_pos (show ownB fr.length pg (l.getD k zD).addr (l.getD k zD).len = true from ho), rdL_len]; rfl
      have t1 : (rdO fr pg (l.getD k zD).addr (l.getD k zD).len).take (roomN m (gthK fr pg l m k).length) = rdO fr pg (l.getD k zD).addr (l.getD k zD).len := List.take_of_length_le (by rw [hr, roomN, e1]; omega)
      have t2 : (rdO fr pg (l.getD k zD).addr (l.getD k zD).len).take (roomN M (gthK fr pg l M k).length) = rdO fr pg (l.getD k zD).addr (l.getD k zD).len := List.take_of_length_le (by rw [hr, roomN, ← e2, e1]; omega)
      rw [t1, t2, e2]
      exact ⟨by rw [List.length_append, ← e2, e1, hr], rfl⟩
theorem pk_ref {fr : List Frm} {pg : List Pl} {l : List Dsc} (h : ∀ d ∈ l, OwD fr pg d) (hl : l.length ≤ 9) : pkB fr pg l = decide (4 ≤ (gthK fr pg l 100000 l.length).length ∧ (gthK fr pg l 100000 l.length).length ≤ 36) ∧ (pkB fr pg l = true → pkG fr pg l = gthK fr pg l 100000 l.length) := by
  have ht := totK_le h l.length (Nat.le_refl _)
  have hL := totK_all l
  obtain ⟨e1, e2⟩ := gth_all h 100000 100000 l.length (Nat.le_refl _) (by omega) (by omega)
  rw [show ((100000 : Nat) : Int) = 100000 from rfl] at e1
  have hk : ∀ (q : lenW l false ≤ 36), pkG fr pg l = gthK fr pg l 100000 l.length := fun q => (gth_all h 36 100000 l.length (Nat.le_refl _) (by omega) (by omega)).2
  refine ⟨?_, fun q => ?_⟩
  · rw [pkB, e1, hL, Bool.eq_iff_iff, decide_eq_true_iff, decide_eq_true_iff]
    constructor
    · rintro ⟨a, b, _⟩; exact ⟨a, b⟩
    · rintro ⟨a, b⟩; exact ⟨a, b, by rw [hk b, e1, hL]; exact a⟩
  · rw [pkB, decide_eq_true_iff] at q; exact hk q.2.1
theorem do_tx {fr : List Frm} {pg : List Pl} {port : Int} {ps : List Prt} {d : Nat} {l : List Dsc} {G : List Nat} (h : ∀ d ∈ l, OwD fr pg d) (hl : l.length ≤ 9) (hG : gthK fr pg l 100000 l.length = G) :
    doR true pg port ps fr d l = if 4 ≤ G.length ∧ G.length ≤ 36 then ⟨G.length, 0, fr, d, sndP ps port (leN (G.take 4) : Nat) (strB (G.drop 4))⟩ else ⟨0, 0, fr, d, ps⟩ := by
  obtain ⟨e1, e2⟩ := pk_ref h hl
  rw [hG] at e1 e2
  rw [doR, if_pos rfl]
  by_cases q : 4 ≤ G.length ∧ G.length ≤ 36
  · rw [decide_eq_true q] at e1
    have e3 := e2 e1
    rw [if_pos q, if_pos e1, pkT, pkS, if_pos e1, if_pos e1, e3, strB_size, List.length_drop, show 4 + (G.length - 4) = G.length by omega]
  · rw [decide_eq_false q] at e1
    rw [if_neg q, e1, if_neg (by decide)]
theorem rnTx_spec (W0 : World) (R : List HP) (br p qv qs qm : Nat) (pg : List Pl) (h : Pgs pg) (port : Int)
    (x0 : SvS) (n : Nat) (len : Nat) (sd sa su : Nat) (hn : n ≤ 8) (hr : Rg3.ok ⟨sd, sa, su, n⟩) (hx : SvOk len ⟨sd, sa, su, n⟩ x0) (h0 : x0.c = 0 ∧ x0.n = 0 ∧ x0.b = 0 ∧ x0.w = 0) :
    Spec Tryz.prog W0 31 [.pointer (some ⟨qv, 0, none⟩), .pointer (some ⟨br, 0, none⟩), .pointer (some ⟨p, 0, none⟩), .int .i64 port]
      (pt br (rqO x0.s) :: pt qv (rvO qs qm x0.d) :: rstoH qs x0.fr :: pt qm (rgO pg) :: rpH p x0.ps :: R)
      (fun v B => ∃ y, y = svGo true pg port n x0 ∧ v = .agg (SvS.v y).toArray ∧ B = pt br (rqO y.s) :: pt qv (rvO qs qm y.d) :: rstoH qs y.fr :: pt qm (rgO pg) :: rpH p y.ps :: R) := by
  obtain ⟨i1, i2, i3, i4⟩ := h0
  refine spec_body Tryz.func31 Tryz.ntmps31 rfl rfl ?_
  refine x_seq (x_region (s_do rfl (d_allocA Tryz.zeroValue67) ?_))
  rintro _ _ ⟨b8, rfl, rfl⟩
  refine x_nil (n_then (x_seq (x_region (s_val rfl (v_build Tryz.underlying67 Tryz.zeroValue67 (sized_cons Tryz.sizeOf3 (sized_cons Tryz.sizeOf3 (sized_cons Tryz.sizeOf3 (sized_cons Tryz.sizeOf3 sized_nil)))) fil_nil) ?_))))
  refine s_do rfl (d_allocA Tryz.zeroValue67) ?_
  rintro _ _ ⟨b9, rfl, rfl⟩
  refine s_do0 (d_storeAll Tryz.sizeOf67 rfl rfl rfl rfl rfl) ?_
  rintro _ _ rfl
  refine x_nil (n_then (x_seq (x_seq (x_region (s_val rfl (v_assign rfl) (x_nil (n_then (x_block ?_))))))))
  refine x_loop (fun X : Nat × SvS => X.1 ≤ n ∧ svGo true pg port (n - X.1) X.2 = svGo true pg port n x0 ∧ SvOk len ⟨sd, sa, su, n⟩ X.2 ∧ X.2.c ≤ X.1 ∧ X.2.n ≤ 9 * X.1 ∧ X.2.b ≤ 36 * X.1 ∧ X.2.w = 0) (fun X => [(0, .pointer (some ⟨qv, 0, none⟩)), (1, .pointer (some ⟨br, 0, none⟩)), (2, .pointer (some ⟨p, 0, none⟩)), (3, .int .i64 port), (8, .pointer (some ⟨b8, 0, none⟩)), (9, .pointer (some ⟨b9, 0, none⟩)), (10, .int .i64 X.1)]) (fun X => pt b9 (cob X.2.v 67) :: pt b8 (cob [.int .i64 0, .int .i64 0, .int .i64 0, .int .i64 0] 67) :: pt br (rqO X.2.s) :: pt qv (rvO qs qm X.2.d) :: rstoH qs X.2.fr :: pt qm (rgO pg) :: rpH p X.2.ps :: R) (fun X => n - X.1) (0, x0) ?_ ?_ ?_ ?_
  · exact ⟨Nat.zero_le _, rfl, hx, by show x0.c ≤ _; omega, by show x0.n ≤ _; omega, by show x0.b ≤ _; omega, i4⟩
  · repeat (first | exact sub_nil | refine sub_cons rfl ?_)
  · obtain ⟨f0, d0, s0, p0, c0, n0, b0, w0⟩ := x0
    dsimp only at i1 i2 i3 i4
    subst i1; subst i2; subst i3; subst i4
    exact inferInstance
  · intro ⟨i, x⟩ ⟨hi, hgo, hok, hc, hnn, hb, hw⟩
    dsimp only at hi hgo hok hc hnn hb hw ⊢
    obtain ⟨fx, dx, ⟨⟨qd, qa, qu, qn⟩, qon, qbr, qlast, qput⟩, px, cx, nx, bx, wx⟩ := x
    obtain ⟨hF, hlen, hd, hs, hsr, hps⟩ := hok
    dsimp only at hF hlen hd hs hsr hps hc hnn hb hw ⊢
    subst hw
    cases hsr
    obtain ⟨sx, hsx⟩ : ∃ sx : QS, sx = ⟨⟨sd, sa, su, n⟩, qon, qbr, qlast, qput⟩ := ⟨_, rfl⟩
    have hsr : sx.r = ⟨sd, sa, su, n⟩ := by rw [hsx]
    have hm : moB true px port = true := rfl
    have hst1 := svSt_mo (pg := pg) (x := ⟨fx, dx, sx, px, cx, nx, bx, 0⟩) hm
    have hokn := svSt_ok (tx := true) (pg := pg) (port := port) (x := ⟨fx, dx, sx, px, cx, nx, bx, 0⟩) (len := len) (r := ⟨sd, sa, su, n⟩) ⟨hF, hlen, hd, by rw [hsx]; exact hs, hsr, hps⟩
    obtain ⟨hl9, hl8⟩ := tkR_ok hF pg sx
    have hown := tk_own (fr := fx) (pg := pg) (s := sx)
    rw [← hsx] at hgo hs
    refine x_seq (x_seq (x_region (s_val rfl (v_move rfl) (s_val rfl (v_move rfl) (s_val rfl (v_nilCheck rfl) ?_)))))
    refine s_val rfl (v_fieldAddr rfl Tryz.underlying76 rfl Tryz.sizeOf73 rfl (by first | exact Nat.zero_add _ | rfl)) ?_
    refine s_val rfl (v_fieldAddr rfl Tryz.underlying73 rfl Tryz.sizeOf71 rfl (by first | exact Nat.zero_add _ | rfl)) ?_
    refine s_val rfl (v_fieldAddr rfl Tryz.underlying71 rfl Tryz.sizeOf3 rfl (by first | exact Nat.zero_add _ | rfl)) ?_
    refine s_val rfl (v_load Tryz.isAgg3 rfl (cell_own rfl)) ?_
    refine s_val rfl (v_lss rfl rfl) (x_nil (n_then ?_))
    refine x_if rfl ?_ ?_
    · intro c3
      dsimp only at c3
      refine x_skip (n_then (x_seq (x_block (x_seq ?_))))
      refine run_pt (b := br) (o' := rqO sx) (by rw [hsx]) ?_
      refine x_region (s_val rfl (v_move rfl) (s_val rfl (v_move rfl) ?_))
      refine s_do rfl (d_call4 Tryz.call108 rfl (rqTake_spec W0 _ br qv qs qm dx fx pg h hF sx hs (by rw [hsr]; exact hr))) ?_
      rintro _ B_ ⟨a, c, rfl, hB_⟩
      obtain rfl := hB_.symm
      dsimp only [svY, svZ] at hst1
      obtain ⟨r, hr⟩ : ∃ r, tkR fx pg sx = r := ⟨_, rfl⟩
      rw [hr] at hl9 hl8 hst1 hown ⊢
      refine s_val rfl (v_move rfl) (s_val rfl (v_extract rfl rfl) (s_val rfl (v_extract rfl rfl) (s_val rfl (v_extract rfl rfl) (s_val rfl (v_extract rfl rfl) (s_val rfl (v_assign rfl) (s_val rfl (v_assign rfl) (s_val rfl (v_assign rfl) (s_val rfl (v_assign rfl) (x_nil (n_then (x_seq (x_seq (x_region (s_val rfl (v_move rfl) (s_val rfl (v_not rfl) (x_nil (n_then ?_)))))))))))))))))
      refine x_if rfl ?_ ?_
      · intro c6
        have ht : ¬ r.2.2.1 = true := by simpa using c6
        rw [if_neg ht] at hst1
        rw [svGo_stop (by omega) (by rw [hst1]), hst1] at hgo
        have hfin := hgo
        refine x_seq (x_region (s_val rfl (v_move rfl) ?_))
        refine s_val rfl (v_fieldAddr rfl Tryz.underlying67 rfl Tryz.sizeOf3 rfl (by first | exact Nat.zero_add _ | rfl)) ?_
        refine s_do0 (d_store Tryz.sizeOf3 rfl rfl rfl (Nat.le_of_ble_eq_true rfl) SetL.eq) ?_
        rintro _ _ rfl
        refine x_nil (n_then (x_seq (x_region (s_val rfl (v_loadAll Tryz.isAgg67 Tryz.sizeOf67 rfl rfl) ?_))))
        refine s_do0 (d_storeAll Tryz.sizeOf67 rfl rfl rfl rfl rfl) ?_
        rintro _ _ rfl
        refine x_nil (n_then (x_ret (r_then (r_block (r_then (r_then (r_block (r_then (x_done (.inl rfl) (.cons (r_all Tryz.isAgg67 Tryz.sizeOf67 rfl rfl) .nil) ?_)))))))))
        exact ⟨_, ⟨_, hfin, rfl, rfl⟩, inferInstance⟩
      · intro c6
        have ht : r.2.2.1 = true := by simpa using c6
        rw [if_pos ht] at hst1
        have hdo := doR_ok (tx := true) (pg := pg) (port := port) (l := r.2.1) hps hF hd
        obtain ⟨G, hG⟩ : ∃ G, gthK fx pg r.2.1 100000 r.2.1.length = G := ⟨_, rfl⟩
        have hGb : By G := by rw [← hG]; exact gthK_by hF pg r.2.1 100000 _
        have hGl : G.length ≤ 100000 := by
          have := (gthK_len fx pg r.2.1 100000 r.2.1.length).2
          rw [← hG]; omega
        have hdr := do_tx (port := port) (ps := px) (d := dx) hown hl8 hG
        refine x_skip (n_then (x_seq (x_region ?_)))
        refine s_val rfl (v_fieldAddr rfl Tryz.underlying67 rfl Tryz.sizeOf3 rfl (by first | exact Nat.zero_add _ | rfl)) ?_
        refine s_val rfl (v_load Tryz.isAgg3 rfl (cell_own rfl)) ?_
        refine s_val rfl (v_add rfl rfl (by rw [w64 (by omega)]; omega : IntKind.wrap .i64 ((cx : Int) + 1) = ((cx + 1 : Nat) : Int))) ?_
        refine s_val rfl (v_fieldAddr rfl Tryz.underlying67 rfl Tryz.sizeOf3 rfl (by first | exact Nat.zero_add _ | rfl)) ?_
        refine s_do0 (d_store Tryz.sizeOf3 rfl rfl rfl (Nat.le_of_ble_eq_true rfl) SetL.eq) ?_
        rintro _ _ rfl
        refine x_nil (n_then (x_seq (x_region ?_)))
        refine s_val rfl (v_fieldAddr rfl Tryz.underlying67 rfl Tryz.sizeOf3 rfl (by first | exact Nat.zero_add _ | rfl)) ?_
        refine s_val rfl (v_load Tryz.isAgg3 rfl (cell_own rfl)) ?_
        refine s_val rfl (v_move rfl) (s_val rfl (v_len_slice Tryz.underlying43 rfl) ?_)
        refine s_val rfl (v_add rfl rfl (by rw [w64 (by omega)]; omega : IntKind.wrap .i64 ((nx : Int) + (r.2.1.length : Int)) = ((nx + r.2.1.length : Nat) : Int))) ?_
        refine s_val rfl (v_fieldAddr rfl Tryz.underlying67 rfl Tryz.sizeOf3 rfl (by first | exact Nat.zero_add _ | rfl)) ?_
        refine s_do0 (d_store Tryz.sizeOf3 rfl rfl rfl (Nat.le_of_ble_eq_true rfl) SetL.eq) ?_
        rintro _ _ rfl
        refine x_nil (n_then (x_seq ?_))
        refine run_form (E := 99) (sz := 4) (a := a) (c := c) (n := r.2.1.length) (ys := r.2.1.flatMap dsV) (fun hf1 => ?_)
        refine x_region (s_val rfl (v_move rfl) (s_val rfl (v_move rfl) ?_))
        refine s_do rfl (d_call3 Tryz.call109 rfl (rcGather_spec W0 _ qv qs qm dx c a fx pg h hF r.2.1 (sla_cells hf1 (cells_osl (E := 99) (sz := 4) (a := a) (n := r.2.1.length) (c := c)) (fun _ => rfl) rfl (by decide)) hl9 (by omega) 100000 (by decide))) ?_
        rintro _ B_ ⟨a2, cc, rfl, hB_⟩
        obtain rfl := hB_.symm
        rw [hG]
        refine s_val rfl (v_assign rfl) (x_nil (n_then ?_))
        refine x_cut (fun y : SvR => y = doR true pg port px fx dx r.2.1) (fun y => [(0, .pointer (some ⟨qv, 0, none⟩)), (1, .pointer (some ⟨br, 0, none⟩)), (2, .pointer (some ⟨p, 0, none⟩)), (3, .int .i64 port), (8, .pointer (some ⟨b8, 0, none⟩)), (9, .pointer (some ⟨b9, 0, none⟩)), (10, .int .i64 i), (11, .int .i64 (r.1 : Nat))]) (fun y => pt b9 (cob [.int .i64 (cx + 1 : Nat), .int .i64 (nx + r.2.1.length : Nat), .int .i64 (bx + y.m : Nat), .int .i64 0] 67) :: pt b8 (cob [.int .i64 0, .int .i64 0, .int .i64 0, .int .i64 0] 67) :: pt br (rqO (tkS fx pg sx)) :: pt qv (rvO qs qm y.d) :: rstoH qs y.fr :: pt qm (rgO pg) :: rpH p y.ps :: R) ?_ ?_
        · skip
          refine x_seq (x_region (s_val rfl (v_move rfl) (s_val rfl (v_len_slice Tryz.underlying44 rfl) (s_val rfl (v_geq rfl rfl) (s_val rfl (v_move rfl) ?_)))))
          refine s_and rfl rfl rfl ?_ ?_
          · intro g12_4
            refine s_val rfl (v_move rfl) (s_yes rfl rfl (s_val rfl (v_len_slice Tryz.underlying44 rfl) (s_yes rfl rfl (s_val rfl (v_leq rfl rfl) (s_val rfl (v_pick_t rfl rfl) (x_nil (n_then ?_)))))))
            refine x_if rfl ?_ ?_
            · intro c12
              have hq : 4 ≤ G.length ∧ G.length ≤ 36 := by
                first
                  | exact ⟨by omega, by omega⟩
                  | (simp at c12; omega)
              rw [if_pos hq] at hdr
              refine x_seq (x_region ?_)
              refine s_val rfl (v_fieldAddr rfl Tryz.underlying67 rfl Tryz.sizeOf3 rfl (by first | exact Nat.zero_add _ | rfl)) ?_
              refine s_val rfl (v_load Tryz.isAgg3 rfl (cell_own rfl)) ?_
              refine s_val rfl (v_move rfl) (s_val rfl (v_len_slice Tryz.underlying44 rfl) ?_)
              refine s_val rfl (v_add rfl rfl (by rw [w64 (by omega)]; omega : IntKind.wrap .i64 ((bx : Int) + (G.length : Int)) = ((bx + G.length : Nat) : Int))) ?_
              refine s_val rfl (v_fieldAddr rfl Tryz.underlying67 rfl Tryz.sizeOf3 rfl (by first | exact Nat.zero_add _ | rfl)) ?_
              refine s_do0 (d_store Tryz.sizeOf3 rfl rfl rfl (Nat.le_of_ble_eq_true rfl) SetL.eq) ?_
              rintro _ _ rfl
              refine x_nil (n_then (x_seq ?_))
              refine run_sla (E := 5) (sz := 1) (a := a2) (n := G.length) (c := cc) (fun x => [bV x]) G (fun _ => rfl) (by decide) (byV_fm G).symm (fun hs1 => ?_)
              refine run_cap (E := 5) (sz := 1) (a := a2) (c := cc) (n := G.length) (fun hcap => ?_)
              obtain ⟨g, o, rfl, hcg⟩ := hs1.all (by intro q; rw [q] at hq; simp at hq) (fun _ => rfl)
              rw [byV_fm] at hcg
              have hgn := getN_lt (at_ := 0) (w := 4) hGb
              have hB2 : leN (G.take 4) = getN G 0 4 := by rw [getN, if_pos (inB_iff.2 ⟨by omega, by omega, by omega, by omega⟩)]; rfl
              refine x_region (s_val rfl (v_move rfl) (s_do rfl (d_call Tryz.call110 rfl (refGet02_spec W0 _ g o cc G 0 4 hcg hGb hcap.1 (maxLen_lt hcap.2))) ?_))
              rintro _ B_ ⟨rfl, hB_⟩
              obtain rfl := hB_.symm
              refine s_val rfl (v_move rfl) (s_val rfl (v_extract rfl rfl) (s_val rfl (v_extract rfl rfl) (s_val rfl (v_assign rfl) (s_val rfl (v_assign rfl) (x_nil (n_then (x_region (s_val rfl (v_move rfl) (s_val rfl (v_move rfl) (s_val rfl (v_move rfl) ?_))))))))))
              refine s_val rfl (v_conv Tryz.underlying47 Tryz.underlying3 rfl (w64 (by omega))) ?_
              refine s_val rfl (v_move rfl) ?_
              refine s_val rfl (v_sliceLg Tryz.underlying44 Tryz.sizeOf5 rfl (i := 4) rfl rfl (by omega) rfl) ?_
              refine s_val rfl (v_bstrSN Tryz.underlying44 Tryz.underlying5 Tryz.underlying9 rfl (by rw [List.length_drop]) (sla_tail (sla_byV hcg.weak) hcap.1 (by omega))) ?_
              refine s_do rfl (d_call1 Tryz.call111 rfl (rpSend_spec W0 _ p px hps.1 port ((getN G 0 4 : Nat) : Int) (strB (G.drop 4)) (by rw [strB_size, List.length_drop]; omega))) ?_
              rintro _ B_ ⟨rfl, hB_⟩
              obtain rfl := hB_.symm
              refine x_nil (n_then ?_)
              refine mid_intro ⟨G.length, 0, fx, dx, sndP px port ((getN G 0 4 : Nat) : Int) (strB (G.drop 4))⟩ ?_ ?_ ?_
              · rw [hdr, hB2]
              · repeat (first | exact sub_nil | refine sub_cons rfl ?_)
              · exact inferInstance
            · intro c12
              have hq : ¬ (4 ≤ G.length ∧ G.length ≤ 36) := by
                first
                  | omega
                  | (simp at c12; omega)
              rw [if_neg hq] at hdr
              refine x_skip (n_then ?_)
              refine mid_intro ⟨0, 0, fx, dx, px⟩ ?_ ?_ ?_
              · first
                  | exact hdr.symm
                  | (rw [if_neg (by omega)] at hdr; exact hdr.symm)
              · repeat (first | exact sub_nil | refine sub_cons rfl ?_)
              · exact inferInstance
          · intro g12_4
            refine s_no rfl rfl rfl rfl (s_no rfl rfl rfl rfl (s_val rfl (v_pick_f rfl rfl) (x_nil (n_then (x_iff rfl (x_skip (n_then ?_)))))))
            refine mid_intro ⟨0, 0, fx, dx, px⟩ ?_ ?_ ?_
            · first
                | exact hdr.symm
                | (rw [if_neg (by omega)] at hdr; exact hdr.symm)
            · repeat (first | exact sub_nil | refine sub_cons rfl ?_)
            · exact inferInstance
        · intro y hy
          rw [← hy] at hdo hst1
          have hym := hdo.m
          have hyt : y.t = 0 := by
            rw [hy, hdr]; split <;> rfl
          rw [hyt] at hst1
          refine x_seq (x_region (s_val rfl (v_move rfl) (s_val rfl (v_move rfl) (s_val rfl (v_move rfl) (s_do rfl (d_call4 Tryz.call112 rfl (rqDone_spec W0 _ br qv qs qm y.d y.fr pg h hdo.frs hdo.d (tkS fx pg sx) (tkS_ok hs) (r.1 : Nat) 0)) ?_)))))
          rintro _ B_ ⟨rfl, hB_⟩
          obtain rfl := hB_.symm
          rw [show ((0 : Nat) : Int) = 0 from rfl] at hst1
          obtain ⟨z, hz⟩ : ∃ z, dnX y.fr pg y.d (tkS fx pg sx) (u32N (r.1 : Nat)) (u32N 0) = z := ⟨_, rfl⟩
          rw [hz] at hst1 ⊢
          refine s_val rfl (v_assign rfl) (x_nil (n_then (x_seq (x_region (s_val rfl (v_move rfl) (s_val rfl (v_neq rfl rfl) (x_nil (n_then ?_))))))))
          refine x_if rfl ?_ ?_
          · intro c17
            have hzc : zB z.c = false := decide_eq_false c17
            rw [hzc] at hst1
            rw [svGo_stop (by omega) (by rw [hst1]), hst1] at hgo
            have hfin := hgo
            refine x_seq (x_region (s_val rfl (v_move rfl) ?_))
            refine s_val rfl (v_fieldAddr rfl Tryz.underlying67 rfl Tryz.sizeOf3 rfl (by first | exact Nat.zero_add _ | rfl)) ?_
            refine s_do0 (d_store Tryz.sizeOf3 rfl rfl rfl (Nat.le_of_ble_eq_true rfl) SetL.eq) ?_
            rintro _ _ rfl
            refine x_nil (n_then (x_seq (x_region (s_val rfl (v_loadAll Tryz.isAgg67 Tryz.sizeOf67 rfl rfl) ?_))))
            refine s_do0 (d_storeAll Tryz.sizeOf67 rfl rfl rfl rfl rfl) ?_
            rintro _ _ rfl
            refine x_nil (n_then (x_ret (r_block (r_then (r_then (r_block (r_then (x_done (.inl rfl) (.cons (r_all Tryz.isAgg67 Tryz.sizeOf67 rfl rfl) .nil) ?_))))))))
            exact ⟨_, ⟨_, hfin, rfl, rfl⟩, inferInstance⟩
          · intro c17
            have hz0 : z.c = 0 := Decidable.not_not.1 c17
            have hzc : zB z.c = true := decide_eq_true hz0
            rw [hzc] at hst1
            rw [svGo_go (by omega) (by rw [hst1]), hst1] at hgo
            rw [hst1] at hokn
            refine x_skip (n_block (n_then (x_region (s_val rfl (v_move rfl) ?_))))
            refine s_val rfl (v_add rfl rfl (by first | exact w64 (by omega) | rfl)) ?_
            refine s_val rfl (v_assign rfl) (x_nil (n_then ?_))
            refine inv_intro (i + 1, ⟨z.fr, z.d, z.s, y.ps, cx + 1, nx + r.2.1.length, bx + y.m, z.c⟩) ?_ ?_ ?_ ?_
            · refine ⟨by omega, ?_, hokn.1, by show cx + 1 ≤ i + 1; omega, by show nx + r.2.1.length ≤ 9 * (i + 1); omega, by show bx + y.m ≤ 36 * (i + 1); omega, hz0⟩
              rw [show n - (i + 1) = n - i - 1 by omega]; exact hgo
            · omega
            · repeat (first | exact sub_nil | refine sub_cons rfl ?_)
            · dsimp only [SvS.v]
              rw [hz0]; exact inferInstance
    · intro c3
      dsimp only at c3
      refine x_exit (e_then (e_then (e_block (n_then (x_seq (x_region (s_val rfl (v_loadAll Tryz.isAgg67 Tryz.sizeOf67 rfl rfl) ?_)))))))
      refine s_do0 (d_storeAll Tryz.sizeOf67 rfl rfl rfl rfl rfl) ?_
      rintro _ _ rfl
      refine x_nil (n_then (x_ret (x_done (.inl rfl) (.cons (r_all Tryz.isAgg67 Tryz.sizeOf67 rfl rfl) .nil) ?_)))
      obtain rfl : i = n := by omega
      rw [Nat.sub_self, svGo] at hgo
      subst hsx
      exact ⟨_, ⟨_, hgo, rfl, rfl⟩, inferInstance⟩
theorem rnRx_spec (W0 : World) (R : List HP) (br p qv qs qm : Nat) (pg : List Pl) (h : Pgs pg) (port : Int)
    (x0 : SvS) (n : Nat) (len : Nat) (sd sa su : Nat) (hn : n ≤ 8) (hr : Rg3.ok ⟨sd, sa, su, n⟩) (hx : SvOk len ⟨sd, sa, su, n⟩ x0) (h0 : x0.c = 0 ∧ x0.n = 0 ∧ x0.b = 0 ∧ x0.w = 0) :
    Spec Tryz.prog W0 33 [.pointer (some ⟨qv, 0, none⟩), .pointer (some ⟨br, 0, none⟩), .pointer (some ⟨p, 0, none⟩), .int .i64 port]
      (pt br (rqO x0.s) :: pt qv (rvO qs qm x0.d) :: rstoH qs x0.fr :: pt qm (rgO pg) :: rpH p x0.ps :: R)
      (fun v B => ∃ y, y = svGo false pg port n x0 ∧ v = .agg (SvS.v y).toArray ∧ B = pt br (rqO y.s) :: pt qv (rvO qs qm y.d) :: rstoH qs y.fr :: pt qm (rgO pg) :: rpH p y.ps :: R) := by
  obtain ⟨i1, i2, i3, i4⟩ := h0
  refine spec_body Tryz.func33 Tryz.ntmps33 rfl rfl ?_
  refine x_seq (x_region (s_do rfl (d_allocA Tryz.zeroValue67) ?_))
  rintro _ _ ⟨b8, rfl, rfl⟩
  refine x_nil (n_then (x_seq (x_region (s_val rfl (v_build Tryz.underlying67 Tryz.zeroValue67 (sized_cons Tryz.sizeOf3 (sized_cons Tryz.sizeOf3 (sized_cons Tryz.sizeOf3 (sized_cons Tryz.sizeOf3 sized_nil)))) fil_nil) ?_))))
  refine s_do rfl (d_allocA Tryz.zeroValue67) ?_
  rintro _ _ ⟨b9, rfl, rfl⟩
  refine s_do0 (d_storeAll Tryz.sizeOf67 rfl rfl rfl rfl rfl) ?_
  rintro _ _ rfl
  refine x_nil (n_then (x_seq (x_seq (x_region (s_val rfl (v_assign rfl) (x_nil (n_then (x_block ?_))))))))
  refine x_loop (fun X : Nat × SvS => X.1 ≤ n ∧ svGo false pg port (n - X.1) X.2 = svGo false pg port n x0 ∧ SvOk len ⟨sd, sa, su, n⟩ X.2 ∧ X.2.c ≤ X.1 ∧ X.2.n ≤ 9 * X.1 ∧ X.2.b ≤ 36 * X.1 ∧ X.2.w = 0) (fun X => [(0, .pointer (some ⟨qv, 0, none⟩)), (1, .pointer (some ⟨br, 0, none⟩)), (2, .pointer (some ⟨p, 0, none⟩)), (3, .int .i64 port), (8, .pointer (some ⟨b8, 0, none⟩)), (9, .pointer (some ⟨b9, 0, none⟩)), (10, .int .i64 X.1)]) (fun X => pt b9 (cob X.2.v 67) :: pt b8 (cob [.int .i64 0, .int .i64 0, .int .i64 0, .int .i64 0] 67) :: pt br (rqO X.2.s) :: pt qv (rvO qs qm X.2.d) :: rstoH qs X.2.fr :: pt qm (rgO pg) :: rpH p X.2.ps :: R) (fun X => n - X.1) (0, x0) ?_ ?_ ?_ ?_
  · exact ⟨Nat.zero_le _, rfl, hx, by show x0.c ≤ _; omega, by show x0.n ≤ _; omega, by show x0.b ≤ _; omega, i4⟩
  · repeat (first | exact sub_nil | refine sub_cons rfl ?_)
  · obtain ⟨f0, d0, s0, p0, c0, n0, b0, w0⟩ := x0
    dsimp only at i1 i2 i3 i4
    subst i1; subst i2; subst i3; subst i4
    exact inferInstance
  · intro ⟨i, x⟩ ⟨hi, hgo, hok, hc, hnn, hb, hw⟩
    dsimp only at hi hgo hok hc hnn hb hw ⊢
    obtain ⟨fx, dx, ⟨⟨qd, qa, qu, qn⟩, qon, qbr, qlast, qput⟩, px, cx, nx, bx, wx⟩ := x
    obtain ⟨hF, hlen, hd, hs, hsr, hps⟩ := hok
    dsimp only at hF hlen hd hs hsr hps hc hnn hb hw ⊢
    subst hw
    cases hsr
    obtain ⟨sx, hsx⟩ : ∃ sx : QS, sx = ⟨⟨sd, sa, su, n⟩, qon, qbr, qlast, qput⟩ := ⟨_, rfl⟩
    have hsr : sx.r = ⟨sd, sa, su, n⟩ := by rw [hsx]
    have hokn := svSt_ok (tx := false) (pg := pg) (port := port) (x := ⟨fx, dx, sx, px, cx, nx, bx, 0⟩) (len := len) (r := ⟨sd, sa, su, n⟩) ⟨hF, hlen, hd, by rw [hsx]; exact hs, hsr, hps⟩
    obtain ⟨hl9, hl8⟩ := tkR_ok hF pg sx
    rw [← hsx] at hgo hs
    have hstop : moB false px port = false → svGo false pg port n x0 = ⟨fx, dx, sx, px, cx, nx, bx, 0⟩ := fun hm => by
      have hm' : ¬ moB false px port = true := by rw [hm]; decide
      have hst : svSt false pg port ⟨fx, dx, sx, px, cx, nx, bx, 0⟩ = (false, ⟨fx, dx, sx, px, cx, nx, bx, 0⟩) := by rw [svSt, if_neg hm']
      rw [← hgo]
      rcases Nat.eq_zero_or_pos (n - i) with q | q
      · rw [q]; rfl
      · rw [svGo_stop q (by rw [hst]), hst]
    have hsz := tkV_size hps port
    have hbl := bL_len (tkV px port)
    refine x_seq (x_seq (x_region (s_val rfl (v_move rfl) (s_val rfl (v_move rfl) (s_val rfl (v_nilCheck rfl) ?_)))))
    refine s_val rfl (v_fieldAddr rfl Tryz.underlying76 rfl Tryz.sizeOf73 rfl (by first | exact Nat.zero_add _ | rfl)) ?_
    refine s_val rfl (v_fieldAddr rfl Tryz.underlying73 rfl Tryz.sizeOf71 rfl (by first | exact Nat.zero_add _ | rfl)) ?_
    refine s_val rfl (v_fieldAddr rfl Tryz.underlying71 rfl Tryz.sizeOf3 rfl (by first | exact Nat.zero_add _ | rfl)) ?_
    refine s_val rfl (v_load Tryz.isAgg3 rfl (cell_own rfl)) ?_
    refine s_val rfl (v_lss rfl rfl) (s_val rfl (v_move rfl) ?_)
    refine s_and rfl rfl rfl ?_ ?_
    · intro g3_9
      refine s_val rfl (v_move rfl) (s_yes rfl rfl (s_val rfl (v_move rfl) (s_yes rfl rfl (s_do rfl (d_call1 Tryz.call40 rfl (rpWaits_spec W0 _ p px port)) ?_))))
      rintro _ B_ ⟨rfl, hB_⟩
      obtain rfl := hB_.symm
      refine s_yes rfl rfl (s_val rfl (v_gtr rfl rfl) (s_val rfl (v_pick_t rfl rfl) (x_nil (n_then ?_))))
      refine x_if rfl ?_ ?_
      · intro c3
        have hw0 : 0 < wtP px port := by omega
        have hm : moB false px port = true := by rw [moB, Bool.false_or, decide_eq_true hw0]
        have hst1 := svSt_mo (pg := pg) (x := ⟨fx, dx, sx, px, cx, nx, bx, 0⟩) hm
        refine x_skip (n_then (x_seq (x_block (x_seq ?_))))
        refine run_pt (b := br) (o' := rqO sx) (by rw [hsx]) ?_
        dsimp only at g3_9
        refine x_region (s_val rfl (v_move rfl) (s_val rfl (v_move rfl) ?_))
        refine s_do rfl (d_call4 Tryz.call108 rfl (rqTake_spec W0 _ br qv qs qm dx fx pg h hF sx hs (by rw [hsr]; exact hr))) ?_
        rintro _ B_ ⟨a, c, rfl, hB_⟩
        obtain rfl := hB_.symm
        dsimp only [svY, svZ] at hst1
        obtain ⟨r, hr⟩ : ∃ r, tkR fx pg sx = r := ⟨_, rfl⟩
        rw [hr] at hl9 hl8 hst1 ⊢
        refine s_val rfl (v_move rfl) (s_val rfl (v_extract rfl rfl) (s_val rfl (v_extract rfl rfl) (s_val rfl (v_extract rfl rfl) (s_val rfl (v_extract rfl rfl) (s_val rfl (v_assign rfl) (s_val rfl (v_assign rfl) (s_val rfl (v_assign rfl) (s_val rfl (v_assign rfl) (x_nil (n_then (x_seq (x_seq (x_region (s_val rfl (v_move rfl) (s_val rfl (v_not rfl) (x_nil (n_then ?_)))))))))))))))))
        refine x_if rfl ?_ ?_
        · intro c6
          have ht : ¬ r.2.2.1 = true := by simpa using c6
          rw [if_neg ht] at hst1
          rw [svGo_stop (by omega) (by rw [hst1]), hst1] at hgo
          have hfin := hgo
          refine x_seq (x_region (s_val rfl (v_move rfl) ?_))
          refine s_val rfl (v_fieldAddr rfl Tryz.underlying67 rfl Tryz.sizeOf3 rfl (by first | exact Nat.zero_add _ | rfl)) ?_
          refine s_do0 (d_store Tryz.sizeOf3 rfl rfl rfl (Nat.le_of_ble_eq_true rfl) SetL.eq) ?_
          rintro _ _ rfl
          refine x_nil (n_then (x_seq (x_region (s_val rfl (v_loadAll Tryz.isAgg67 Tryz.sizeOf67 rfl rfl) ?_))))
          refine s_do0 (d_storeAll Tryz.sizeOf67 rfl rfl rfl rfl rfl) ?_
          rintro _ _ rfl
          refine x_nil (n_then (x_ret (r_then (r_block (r_then (r_then (r_block (r_then (x_done (.inl rfl) (.cons (r_all Tryz.isAgg67 Tryz.sizeOf67 rfl rfl) .nil) ?_)))))))))
          exact ⟨_, ⟨_, hfin, rfl, rfl⟩, inferInstance⟩
        · intro c6
          have ht : r.2.2.1 = true := by simpa using c6
          rw [if_pos ht] at hst1
          have hdo := doR_ok (tx := false) (pg := pg) (port := port) (l := r.2.1) hps hF hd
          have hdr : doR false pg port px fx dx r.2.1 = ⟨(scK fx pg dx r.2.1 0 (bL (tkV px port)) r.2.1.length).2.1, (scK fx pg dx r.2.1 0 (bL (tkV px port)) r.2.1.length).2.1, (scK fx pg dx r.2.1 0 (bL (tkV px port)) r.2.1.length).2.2.1, (scK fx pg dx r.2.1 0 (bL (tkV px port)) r.2.1.length).2.2.2, tkP px port⟩ := by rw [doR, if_neg (by decide)]
          refine x_skip (n_then (x_seq (x_region ?_)))
          refine s_val rfl (v_fieldAddr rfl Tryz.underlying67 rfl Tryz.sizeOf3 rfl (by first | exact Nat.zero_add _ | rfl)) ?_
          refine s_val rfl (v_load Tryz.isAgg3 rfl (cell_own rfl)) ?_
          refine s_val rfl (v_add rfl rfl (by rw [w64 (by omega)]; omega : IntKind.wrap .i64 ((cx : Int) + 1) = ((cx + 1 : Nat) : Int))) ?_
          refine s_val rfl (v_fieldAddr rfl Tryz.underlying67 rfl Tryz.sizeOf3 rfl (by first | exact Nat.zero_add _ | rfl)) ?_
          refine s_do0 (d_store Tryz.sizeOf3 rfl rfl rfl (Nat.le_of_ble_eq_true rfl) SetL.eq) ?_
          rintro _ _ rfl
          refine x_nil (n_then (x_seq (x_region ?_)))
          refine s_val rfl (v_fieldAddr rfl Tryz.underlying67 rfl Tryz.sizeOf3 rfl (by first | exact Nat.zero_add _ | rfl)) ?_
          refine s_val rfl (v_load Tryz.isAgg3 rfl (cell_own rfl)) ?_
          refine s_val rfl (v_move rfl) (s_val rfl (v_len_slice Tryz.underlying43 rfl) ?_)
          refine s_val rfl (v_add rfl rfl (by rw [w64 (by omega)]; omega : IntKind.wrap .i64 ((nx : Int) + (r.2.1.length : Int)) = ((nx + r.2.1.length : Nat) : Int))) ?_
          refine s_val rfl (v_fieldAddr rfl Tryz.underlying67 rfl Tryz.sizeOf3 rfl (by first | exact Nat.zero_add _ | rfl)) ?_
          refine s_do0 (d_store Tryz.sizeOf3 rfl rfl rfl (Nat.le_of_ble_eq_true rfl) SetL.eq) ?_
          rintro _ _ rfl
          refine x_nil (n_then (x_seq (x_region (s_val rfl (v_move rfl) (s_val rfl (v_move rfl) (s_do rfl (d_call1 Tryz.call116 rfl (rpTake_spec W0 _ p px hps.1 port)) ?_))))))
          rintro _ B_ ⟨rfl, hB_⟩
          obtain rfl := hB_.symm
          refine s_val rfl (v_move rfl) (s_val rfl (v_extract rfl rfl) (s_val rfl (v_extract rfl rfl) (s_val rfl (v_assign rfl) (s_val rfl (v_assign rfl) (x_nil (n_then (x_seq ?_)))))))
          refine run_form (E := 99) (sz := 4) (a := a) (c := c) (n := r.2.1.length) (ys := r.2.1.flatMap dsV) (fun hf1 => ?_)
          rw [hdr] at hdo hst1
          refine x_region (s_val rfl (v_move rfl) (s_val rfl (v_move rfl) (s_val rfl (v_move rfl) (s_do rfl (d_strb Tryz.underlying9 Tryz.underlying44 Tryz.underlying5 rfl) ?_))))
          rintro _ B_ ⟨b, cb, arr, mk, rfl, hcb, har, hB_⟩
          obtain rfl := hB_.symm
          rw [← hbl] at hcb ⊢
          refine s_do rfl (d_call3 Tryz.call117 rfl (rcScatter_spec W0 _ qv qs qm dx c cb a (some ⟨b, 0, none⟩) fx pg h hF hd r.2.1 (sla_cells hf1 (cells_osl (E := 99) (sz := 4) (a := a) (n := r.2.1.length) (c := c)) (fun _ => rfl) rfl (by decide)) hl9 (by omega) 0 (by decide) (bL (tkV px port)) (bL_by _) (sla_byV (cells_obj har)) (by omega))) ?_
          rintro _ B_ ⟨rfl, hB_⟩
          obtain rfl := hB_.symm
          generalize scK fx pg dx r.2.1 0 (bL (tkV px port)) r.2.1.length = k at hdo hst1 ⊢
          obtain ⟨k0, km, kf, kd⟩ := k
          obtain ⟨y1, y2, y3, y4, y5, y6⟩ := hdo
          dsimp only at y1 y2 y3 y4 y5 y6 hst1 ⊢
          refine s_val rfl (v_assign rfl) (x_nil (n_then (x_seq (x_region ?_))))
          refine s_val rfl (v_fieldAddr rfl Tryz.underlying67 rfl Tryz.sizeOf3 rfl (by first | exact Nat.zero_add _ | rfl)) ?_
          refine s_val rfl (v_load Tryz.isAgg3 rfl (cell_own rfl)) ?_
          refine s_val rfl (v_move rfl) ?_
          refine s_val rfl (v_add rfl rfl (by rw [w64 (by omega)]; omega : IntKind.wrap .i64 ((bx : Int) + (km : Int)) = ((bx + km : Nat) : Int))) ?_
          refine s_val rfl (v_fieldAddr rfl Tryz.underlying67 rfl Tryz.sizeOf3 rfl (by first | exact Nat.zero_add _ | rfl)) ?_
          refine s_do0 (d_store Tryz.sizeOf3 rfl rfl rfl (Nat.le_of_ble_eq_true rfl) SetL.eq) ?_
          rintro _ _ rfl
          refine x_nil (n_then (x_seq (x_region (s_val rfl (v_move rfl) (s_val rfl (v_move rfl) (s_val rfl (v_move rfl) (s_val rfl (v_move rfl) (s_do rfl (d_call4 Tryz.call112 rfl (rqDone_spec W0 _ br qv qs qm kd kf pg h y1 y3 (tkS fx pg sx) (tkS_ok hs) (r.1 : Nat) (km : Nat))) ?_))))))))
          rintro _ B_ ⟨rfl, hB_⟩
          obtain rfl := hB_.symm
          obtain ⟨z, hz⟩ : ∃ z, dnX kf pg kd (tkS fx pg sx) (u32N (r.1 : Nat)) (u32N (km : Nat)) = z := ⟨_, rfl⟩
          rw [hz] at hst1 ⊢
          refine s_val rfl (v_assign rfl) (x_nil (n_then (x_seq (x_region (s_val rfl (v_move rfl) (s_val rfl (v_neq rfl rfl) (x_nil (n_then ?_))))))))
          refine x_if rfl ?_ ?_
          · intro c15
            have hzc : zB z.c = false := decide_eq_false c15
            rw [hzc] at hst1
            rw [svGo_stop (by omega) (by rw [hst1]), hst1] at hgo
            have hfin := hgo
            refine x_seq (x_region (s_val rfl (v_move rfl) ?_))
            refine s_val rfl (v_fieldAddr rfl Tryz.underlying67 rfl Tryz.sizeOf3 rfl (by first | exact Nat.zero_add _ | rfl)) ?_
            refine s_do0 (d_store Tryz.sizeOf3 rfl rfl rfl (Nat.le_of_ble_eq_true rfl) SetL.eq) ?_
            rintro _ _ rfl
            refine x_nil (n_then (x_seq (x_region (s_val rfl (v_loadAll Tryz.isAgg67 Tryz.sizeOf67 rfl rfl) ?_))))
            refine s_do0 (d_storeAll Tryz.sizeOf67 rfl rfl rfl rfl rfl) ?_
            rintro _ _ rfl
            refine x_nil (n_then (x_ret (r_block (r_then (r_then (r_block (r_then (x_done (.inl rfl) (.cons (r_all Tryz.isAgg67 Tryz.sizeOf67 rfl rfl) .nil) ?_))))))))
            exact ⟨_, ⟨_, hfin, rfl, rfl⟩, inferInstance⟩
          · intro c15
            have hz0 : z.c = 0 := Decidable.not_not.1 c15
            have hzc : zB z.c = true := decide_eq_true hz0
            rw [hzc] at hst1
            rw [svGo_go (by omega) (by rw [hst1]), hst1] at hgo
            rw [hst1] at hokn
            refine x_skip (n_block (n_then (x_region (s_val rfl (v_move rfl) ?_))))
            refine s_val rfl (v_add rfl rfl (by first | exact w64 (by omega) | rfl)) ?_
            refine s_val rfl (v_assign rfl) (x_nil (n_then ?_))
            refine inv_intro (i + 1, ⟨z.fr, z.d, z.s, tkP px port, cx + 1, nx + r.2.1.length, bx + km, z.c⟩) ?_ ?_ ?_ ?_
            · refine ⟨by omega, ?_, hokn.1, by show cx + 1 ≤ i + 1; omega, by show nx + r.2.1.length ≤ 9 * (i + 1); omega, by show bx + km ≤ 36 * (i + 1); omega, hz0⟩
              rw [show n - (i + 1) = n - i - 1 by omega]; exact hgo
            · omega
            · repeat (first | exact sub_nil | refine sub_cons rfl ?_)
            · dsimp only [SvS.v]
              rw [hz0]; exact inferInstance
      · intro c3
        refine x_exit (e_then (e_then (e_block (n_then (x_seq (x_region (s_val rfl (v_loadAll Tryz.isAgg67 Tryz.sizeOf67 rfl rfl) ?_)))))))
        refine s_do0 (d_storeAll Tryz.sizeOf67 rfl rfl rfl rfl rfl) ?_
        rintro _ _ rfl
        refine x_nil (n_then (x_ret (x_done (.inl rfl) (.cons (r_all Tryz.isAgg67 Tryz.sizeOf67 rfl rfl) .nil) ?_)))
        have hfin : svGo false pg port n x0 = ⟨fx, dx, sx, px, cx, nx, bx, 0⟩ := by
          first
            | (rw [← hgo, show n - i = 0 by dsimp only at g3_9; omega]; rfl)
            | exact hstop (by rw [moB, Bool.false_or, decide_eq_false (by omega)])
        rw [hfin]
        subst hsx
        exact ⟨_, ⟨_, rfl, rfl, rfl⟩, inferInstance⟩
    · intro g3_9
      refine s_no rfl rfl rfl rfl (s_no rfl rfl rfl rfl (s_no rfl rfl rfl rfl (s_val rfl (v_pick_f rfl rfl) (x_nil (n_then (x_iff rfl (x_exit (e_then (e_then (e_block (n_then (x_seq (x_region (s_val rfl (v_loadAll Tryz.isAgg67 Tryz.sizeOf67 rfl rfl) ?_))))))))))))))
      refine s_do0 (d_storeAll Tryz.sizeOf67 rfl rfl rfl rfl rfl) ?_
      rintro _ _ rfl
      refine x_nil (n_then (x_ret (x_done (.inl rfl) (.cons (r_all Tryz.isAgg67 Tryz.sizeOf67 rfl rfl) .nil) ?_)))
      have hfin : svGo false pg port n x0 = ⟨fx, dx, sx, px, cx, nx, bx, 0⟩ := by
        first
          | (rw [← hgo, show n - i = 0 by dsimp only at g3_9; omega]; rfl)
          | exact hstop (by rw [moB, Bool.false_or, decide_eq_false (by omega)])
      rw [hfin]
      subst hsx
      exact ⟨_, ⟨_, rfl, rfl, rfl⟩, inferInstance⟩
end Go.Proofs.YtlnmofhehcilhaaGreat
namespace Go.Proofs.YtlnmofhehcilhaaGreat
open Go.RowKit
set_option linter.unusedSimpArgs false
set_option linter.unusedVariables false
set_option maxRecDepth 20000
theorem frBytes_spec (W0 : World) (R : List HP) (ps : Nat) (fr : List Frm) (hF : Frs fr) (f : Nat) (hf : f < fr.length) :
    Spec Tryz.prog W0 36 [.pointer (some ⟨ps, 0, none⟩), .int .i64 f] (stoH ps fr :: R)
      (fun v B => ∃ a c, v = .tuple #[.slice a 64 c, .int .i64 0] ∧ B = osl 5 1 (.slice a 64 c) (byV (fr.getD f [])) :: stoH ps fr :: R) := by
  have hif : isF fr.length (f : Int) = true := by simp only [isF, decide_eq_true_iff]; omega
  obtain ⟨hl, hb⟩ := hF.get hf
  refine spec_body Tryz.func36 Tryz.ntmps36 rfl rfl ?_
  refine x_seq (x_region (s_val rfl (v_assign rfl) (s_val rfl (v_assign rfl) (x_nil (n_then (x_seq (x_seq (x_region (s_val rfl (v_move rfl) (s_val rfl (v_move rfl) (s_do rfl (d_call1 Tryz.call120 rfl (frMay_spec W0 _ ps fr f)) ?_)))))))))))
  rintro _ B_ ⟨rfl, hB_⟩
  obtain rfl := hB_.symm
  refine s_val rfl (v_assign rfl) (x_nil (n_then (x_seq (x_region (s_val rfl (v_move rfl) (s_val rfl (v_neq rfl rfl) (x_nil (n_then ?_))))))))
  refine x_if rfl ?_ ?_
  · intro c2
    exact absurd c2 (by simp [hif])
  · intro c2
    refine x_skip (n_then (x_seq (x_region ?_)))
    refine s_do rfl (d_make (sz := 1) (by_ := 1) (info := Tryz.t5) Tryz.underlying44 (by kernel_rfl) rfl rfl rfl rfl (by decide) rfl rfl rfl rfl (by decide) (by decide)) ?_
    rintro _ _ ⟨b1, rfl, rfl⟩
    refine s_val rfl (v_assign rfl) (x_nil (n_then (x_seq ?_)))
    refine run_sto (ps := ps) fun g => ?_
    refine x_region (s_val rfl (v_move rfl) (s_val rfl (v_move rfl) (s_val rfl (v_nilCheck rfl) ?_)))
    refine s_val rfl (v_fieldAddr rfl Tryz.underlying204 rfl Tryz.sizeOf202 rfl (by first | exact Nat.zero_add _ | rfl)) ?_
    refine s_val rfl (v_load Tryz.isAgg202 rfl (cell_own rfl)) ?_
    refine s_val rfl (v_move rfl) ?_
    refine s_val rfl (v_idx Tryz.underlying202 Tryz.sizeOf201 rfl rfl rfl hf (by first | exact Nat.zero_add _ | rfl)) ?_
    refine s_val rfl (v_sliceArr Tryz.underlying201 Tryz.sizeOf5 rfl) ?_
    refine s_do rfl (d_copy Tryz.underlying44 Tryz.sizeOf5 rfl rfl (m := 64) (vs := byV (fr.getD f [])) rfl (cells_part (fr_row hF hf) (by rw [byV_len, hl])) (by rw [byV_len, hl]) (byV_one _) (by decide) (by
  have := setR_all (byV (fr.getD f [])) (List.replicate (64 * 1) (.int .u8 0)) [] (by rw [byV_len, hl]; simp)
  simpa using this)) ?_
    rintro _ B_ ⟨rfl, hB_⟩
    obtain rfl := hB_.symm
    refine x_nil (n_then (x_seq (x_region (s_val rfl (v_move rfl) (s_val rfl (v_assign rfl) (s_val rfl (v_assign rfl) (x_nil (n_then (x_ret (x_done (.inl rfl) (.cons (r_tmp rfl) (.cons (r_tmp rfl) .nil)) ?_))))))))))
    exact ⟨_, ⟨some ⟨b1, 0, none⟩, 64, rfl, rfl⟩, (ent_osl0 (k := ent_sto rfl rfl) (by simp only [maxLen]; omega) (by rw [byV_len, hl]))⟩
section
variable {P : Program} {W0 : World} {N : FSz} {K : Act → World → Prop} {e : Env} {A B R R1 R2 R3 : List HP} {qs n : Nat} {fr : List Frm}
theorem run_rstoG [hk : Tk rstoH qs A fr R] {i : Nat} (hi : i < fr.length) (h : ∀ a c vs vi, vs.length = fr.length → vs[i]? = some vi →
      Run W0 N K e (pt qs (cob [.slice a fr.length c] 82) :: osl 44 1 (.slice a fr.length c) vs :: osl 5 1 vi (byV (fr.getD i [])) :: kH 2 (grp (((vs.zip fr).map inH).eraseIdx i)) :: R)) : Run W0 N K e A :=
  run_rstoN (qs := qs) hi fun a c vs vi h1 h2 => run_ent (Ent.cons (Ent.cons (Ent.cons ent_shut))) (h a c vs vi h1 h2)
theorem run_rstoU {i c : Nat} {a : Option Addr} {vs : List Value} {vi : Value} {ys : List Value} [h1 : Tk pt qs A (cob [.slice a n c] 82) R1] [h2 : Tk (osl 44 1) (.slice a n c) R1 vs R2] [h3 : Tk (osl 5 1) vi R2 ys R3]
    [h4 : Tk kH 2 R3 (grp (((vs.zip fr).map inH).eraseIdx i)) R] (hvi : vs[i]? = some vi) (hy : ys = byV (fr.getD i [])) (hv : vs.length = fr.length) (hn : n = fr.length) (hi : i < fr.length) (k : Run W0 N K e (rstoH qs fr :: R)) : Run W0 N K e A := by
  have hset : vs.set i vi = vs := by
    apply List.ext_getElem?
    intro j
    by_cases e : i = j
    · subst e; rw [List.getElem?_set_self (by omega), hvi]
    · rw [List.getElem?_set_ne e]
  have hfs : fr.set i (fr.getD i []) = fr := by
    apply List.ext_getElem?
    intro j
    by_cases e : i = j
    · subst e; rw [List.getElem?_set_self hi]; simp [List.getD, hi]
    · rw [List.getElem?_set_ne e]
  refine run_perm (h1.perm.trans ((h2.perm.trans ((h3.perm.trans (h4.perm.cons _)).cons _)).cons _)) ?_
  have e1 : Ent (pt qs (cob [.slice a n c] 82) :: osl 44 1 (.slice a n c) vs :: osl 5 1 vi ys :: kH 2 (grp (((vs.zip fr).map inH).eraseIdx i)) :: R) (rstoH qs fr :: R) := by
    refine (Ent.cons (Ent.cons (Ent.cons ent_open))).trans ?_
    have := @ent_rstoN (pt qs (cob [.slice a n c] 82) :: osl 44 1 (.slice a n c) vs :: osl 5 1 vi ys :: (((vs.zip fr).map inH).eraseIdx i ++ R)) R _ _ qs n fr a c i vs vi (fr.getD i []) ys R tk_here (by rw [hset]; exact tk_here) tk_here hy hv hn hi ent_refl
    rwa [hfs] at this
  exact run_ent e1 k
theorem run_some {E sz : Nat} {vi : Value} {ys : List Value} [h : Tk (osl E sz) vi A ys R] (hne : ys ≠ []) (k : ∀ g n c, vi = .slice (some ⟨g, 0, none⟩) n c → ys.length = n * sz → Run W0 N K e A) : Run W0 N K e A := fun act w hF hO => by
  rcases (hO.tk (r := osl E sz) (b := vi)).osl with ⟨_, k2, _⟩ | ⟨g, n', cap, sp, k1, _, _, k4, _, _⟩
  · exact absurd k2 hne
  · exact k g n' cap k1 k4 act w hF hO
end
end Go.Proofs.YtlnmofhehcilhaaGreat
namespace Go.Proofs.YtlnmofhehcilhaaGreat
open Go.RowKit
set_option linter.unusedSimpArgs false
set_option linter.unusedVariables false
set_option maxRecDepth 20000
end Go.Proofs.YtlnmofhehcilhaaGreat
