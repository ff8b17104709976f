/-
  Part 6 of the proof of NicPlays: rules, and walks of functions. Conditions: none.
-/
import Derived.Test.YtlnmofhehcilhaaGreatNicPlaysE
namespace Go.Proofs.YtlnmofhehcilhaaGreat
open Go.RowKit
set_option linter.unusedSimpArgs false
set_option linter.unusedVariables false
set_option maxRecDepth 20000
def arQ (ps : List Prt) (pk : List ByteArray) (port : Int) : Nat → List Prt
  | 0 => ps
  | i + 1 => arP (arQ ps pk port i) port (pk.getD i ByteArray.empty)
theorem arQ_ok {ps : List Prt} {pk : List ByteArray} {port : Int} (h : PrS ps) : ∀ i, PrS (arQ ps pk port i)
  | 0 => h
  | i + 1 => arP_ok (arQ_ok h i) _ _
theorem arP_len (ps : List Prt) (i : Int) (s : ByteArray) : (arP ps i s).length = ps.length := by unfold arP; split <;> simp
theorem sndP_len (ps : List Prt) (f t : Int) (s : ByteArray) : (sndP ps f t s).length = ps.length := by unfold sndP; split <;> simp
theorem tkP_len (ps : List Prt) (i : Int) : (tkP ps i).length = ps.length := by unfold tkP; split <;> simp
theorem arQ_len (ps : List Prt) (pk : List ByteArray) (port : Int) : ∀ i, (arQ ps pk port i).length = ps.length
  | 0 => rfl
  | i + 1 => by rw [arQ, arP_len, arQ_len ps pk port i]
theorem doR_len (tx : Bool) (pg : List Pl) (port : Int) (ps : List Prt) (fr : List Frm) (d : Nat) (l : List Dsc) : (doR tx pg port ps fr d l).ps.length = ps.length := by
  unfold doR; split
  · split
    · exact sndP_len _ _ _ _
    · rfl
  · exact tkP_len _ _
theorem svSt_plen (tx : Bool) (pg : List Pl) (port : Int) (x : SvS) : (svSt tx pg port x).2.ps.length = x.ps.length := by
  unfold svSt; split
  · split
    · exact doR_len _ _ _ _ _ _ _
    · rfl
  · rfl
theorem svGo_plen (tx : Bool) (pg : List Pl) (port : Int) : ∀ k x, (svGo tx pg port k x).ps.length = x.ps.length
  | 0, x => rfl
  | k + 1, x => by
    rw [svGo]; split
    · rw [svGo_plen tx pg port k, svSt_plen]
    · exact svSt_plen _ _ _ _
theorem ouP_le {ps : List Prt} (h : PrOk ps) (i : Int) : (ouP ps i).length ≤ 64 := by
  unfold ouP; split
  · rename_i hr
    have hr := inR_iff.1 hr
    have h1 := h.at_ (i := i.toNat) (by omega)
    have h2 := mostP_le (ps.getD i.toNat default)
    unfold ouQ; split
    · exact Nat.le_trans h1 h2
    · exact Nat.zero_le _
  · exact Nat.zero_le _
theorem rpNewF_spec (W0 : World) (R : List HP) (l : List Pt2) (a : Option Addr) (n c : Nat) (hln : l.length = n) (hs : SlA (OwnP W0 R) a 2 ptV2 l) (hno : ¬ nwB l = true) :
    Spec Tryz.prog W0 26 [.slice a n c] R (fun v B => v = .tuple #[.pointer none, .int .i64 15] ∧ B = R) :=
  spec_post (rpNew_spec W0 R l a n c hln hs) fun v B hB => by
    rcases hB with ⟨h, _⟩ | ⟨_, h1, h2⟩
    · exact absurd h hno
    · exact ⟨_, ⟨h1, h2⟩, ent_refl⟩
theorem rpNewT_spec (W0 : World) (R : List HP) (l : List Pt2) (a : Option Addr) (n c : Nat) (hln : l.length = n) (hs : SlA (OwnP W0 R) a 2 ptV2 l) (hok : nwB l = true) :
    Spec Tryz.prog W0 26 [.slice a n c] R (fun v B => ∃ p, v = .tuple #[.pointer (some ⟨p, 0, none⟩), .int .i64 0] ∧ B = rpH p (newP l) :: R) :=
  spec_post (rpNew_spec W0 R l a n c hln hs) fun v B hB => by
    rcases hB with ⟨_, p, h1, h2⟩ | ⟨h, _⟩
    · exact ⟨_, ⟨p, h1, h2⟩, ent_refl⟩
    · rw [hok] at h; cases h
theorem NicPlays_no (W0 : World) (g : Gst) (hg : ∀ A, GOk (OwnP W0 A) g) (al ap ak ag : Option Addr) (cl cp ck cg : Nat) (l : List Pt2) (hl : SlB W0 al 2 ptV2 l) (hll : l.length < 9223372036854775808) (pk : List ByteArray) (port : Int) (ks ags : List Nat) (hno : ¬ nwB l = true) :
    Spec Tryz.prog W0 4 [.agg (gstV g).toArray, .slice al l.length cl, .slice ap pk.length cp, .int .i64 port, .slice ak ks.length ck, .slice ag ags.length cg] [] (fun v B => v = .bool true ∧ B = []) := by
  refine spec_body Tryz.func4 Tryz.ntmps4 rfl rfl ?_
  refine x_seq (x_region (s_do rfl (d_boxA rfl) ?_))
  rintro _ _ ⟨b3, rfl, rfl⟩
  refine s_val rfl (v_assign rfl) (x_nil (n_then (x_seq (x_region (s_val rfl (v_loadAll Tryz.isAgg49 Tryz.sizeOf49 rfl rfl) ?_)))))
  refine s_do rfl (d_call Tryz.call24 rfl (made27_spec W0 _ g (hg _) fit27)) ?_
  rintro _ B_ ⟨pv, ps, pm, qv, qs, qm, bq, br, rfl, hB_⟩
  obtain rfl := hB_.symm
  have hM := mk27_ok g
  generalize mk27 g = x at hM ⊢
  refine s_val rfl (v_move rfl) (s_val rfl (v_extract rfl rfl) (s_val rfl (v_extract rfl rfl) (s_val rfl (v_extract rfl rfl) (s_val rfl (v_extract rfl rfl) (s_val rfl (v_assign rfl) (s_val rfl (v_assign rfl) (s_val rfl (v_assign rfl) (s_val rfl (v_assign rfl) (x_nil (n_then (x_seq (x_seq (x_region (s_val rfl (v_move rfl) (s_val rfl (v_eql_ptr_nil Tryz.underlying51 rfl rfl) (s_val rfl (v_move rfl) ?_))))))))))))))))
  refine s_or rfl rfl rfl ?_ ?_
  · intro g2_3
    cases g2_3
  · intro g2_3
    refine s_val rfl (v_move rfl) (s_yes rfl rfl (s_val rfl (v_eql_ptr_nil Tryz.underlying53 rfl rfl) (s_val rfl (v_pick_f rfl rfl) (x_nil (n_then ?_)))))
    refine x_if rfl ?_ ?_
    · intro c2
      cases c2
    · intro c2
      refine x_skip (n_then (x_seq (x_region (s_val rfl (v_move rfl) (s_do rfl (d_call Tryz.call25 rfl (prNewF_spec W0 _ l al l.length cl rfl (sla_base hl) hno)) ?_)))))
      rintro _ B_ ⟨rfl, hB_⟩
      obtain rfl := hB_.symm
      refine s_val rfl (v_move rfl) (s_val rfl (v_extract rfl rfl) (s_val rfl (v_extract rfl rfl) (s_val rfl (v_assign rfl) (s_val rfl (v_assign rfl) (x_nil (n_then (x_seq (x_region (s_val rfl (v_move rfl) (s_do rfl (d_call Tryz.call26 rfl (rpNewF_spec W0 _ l al l.length cl rfl (sla_base hl) hno)) ?_))))))))))
      rintro _ B_ ⟨rfl, hB_⟩
      obtain rfl := hB_.symm
      refine s_val rfl (v_move rfl) (s_val rfl (v_extract rfl rfl) (s_val rfl (v_extract rfl rfl) (s_val rfl (v_assign rfl) (s_val rfl (v_assign rfl) (x_nil (n_then (x_seq (x_seq (x_region (s_val rfl (v_move rfl) (s_val rfl (v_move rfl) (s_val rfl (v_neq rfl rfl) (x_nil (n_then ?_))))))))))))))
      refine x_if rfl ?_ ?_
      · intro c6
        exact absurd rfl c6
      · intro c6
        refine x_skip (n_then (x_seq (x_seq (x_region (s_val rfl (v_move rfl) (s_val rfl (v_neq rfl rfl) (x_nil (n_then ?_))))))))
        refine x_if rfl ?_ ?_
        · intro c8
          refine x_seq (x_region (s_do rfl (d_call Tryz.call27 rfl (awake27_spec W0 _)) ?_))
          rintro _ B_ ⟨rfl, hB_⟩
          obtain rfl := hB_.symm
          refine s_val rfl (v_assign rfl) (x_nil (n_then (x_ret (r_then (x_done (.inl rfl) (.cons (r_tmp rfl) .nil) ?_)))))
          exact ⟨_, ⟨rfl, rfl⟩, inferInstance⟩
        · intro c8
          exact absurd (by decide) c8
theorem NicPlays_walk (W0 : World) (g : Gst) (hg : ∀ A, GOk (OwnP W0 A) g) (al ap ak ag : Option Addr) (cl cp ck cg : Nat) (l : List Pt2) (hl : SlB W0 al 2 ptV2 l) (hll : l.length < 9223372036854775808) (pk : List ByteArray) (hpk : SlB W0 ap 1 (fun s => [sV s]) pk) (hpl : pk.length < 9223372036854775808) (hps : ∀ s ∈ pk, s.size < 9223372036854775808)
    (port : Int) (ks ags : List Nat) (hks : SlB W0 ak 1 (fun x => [bV x]) ks) (hkb : By ks) (hkl : ks.length < 9223372036854775808) (hag : SlB W0 ag 1 (fun x => [wV x]) ags) (hab : ∀ x ∈ ags, x < 4294967296) (hagl : ags.length < 9223372036854775808) (hok : nwB l = true) :
    Spec Tryz.prog W0 4 [.agg (gstV g).toArray, .slice al l.length cl, .slice ap pk.length cp, .int .i64 port, .slice ak ks.length ck, .slice ag ags.length cg] [] (fun v B => v = .bool true ∧ B = []) := by
  have hP := pg23_ok 8
  obtain ⟨hl8, hlab⟩ := nwB_yes hok
  refine spec_body Tryz.func4 Tryz.ntmps4 rfl rfl ?_
  refine x_seq (x_region (s_do rfl (d_boxA rfl) ?_))
  rintro _ _ ⟨b3, rfl, rfl⟩
  refine s_val rfl (v_assign rfl) (x_nil (n_then (x_seq (x_region (s_val rfl (v_loadAll Tryz.isAgg49 Tryz.sizeOf49 rfl rfl) ?_)))))
  refine s_do rfl (d_call Tryz.call24 rfl (made27_spec W0 _ g (hg _) fit27)) ?_
  rintro _ B_ ⟨pv, ps, pm, qv, qs, qm, bq, br, rfl, hB_⟩
  obtain rfl := hB_.symm
  have hM := mk27_ok g
  generalize mk27 g = x at hM ⊢
  obtain ⟨f0, d0⟩ := x
  obtain ⟨hM1, hM2, hM3⟩ := hM
  dsimp only at hM1 hM2 hM3 ⊢
  refine s_val rfl (v_move rfl) (s_val rfl (v_extract rfl rfl) (s_val rfl (v_extract rfl rfl) (s_val rfl (v_extract rfl rfl) (s_val rfl (v_extract rfl rfl) (s_val rfl (v_assign rfl) (s_val rfl (v_assign rfl) (s_val rfl (v_assign rfl) (s_val rfl (v_assign rfl) (x_nil (n_then (x_seq (x_seq (x_region (s_val rfl (v_move rfl) (s_val rfl (v_eql_ptr_nil Tryz.underlying51 rfl rfl) (s_val rfl (v_move rfl) ?_))))))))))))))))
  refine s_or rfl rfl rfl ?_ ?_
  · intro g2_3
    cases g2_3
  · intro g2_3
    refine s_val rfl (v_move rfl) (s_yes rfl rfl (s_val rfl (v_eql_ptr_nil Tryz.underlying53 rfl rfl) (s_val rfl (v_pick_f rfl rfl) (x_nil (n_then ?_)))))
    refine x_if rfl ?_ ?_
    · intro c2
      cases c2
    · intro c2
      refine x_skip (n_then (x_seq (x_region (s_val rfl (v_move rfl) (s_do rfl (d_call Tryz.call25 rfl (prNew_spec W0 _ l al l.length cl rfl hl8 (sla_base hl) hlab)) ?_)))))
      rintro _ B_ ⟨p, rfl, hB_⟩
      obtain rfl := hB_.symm
      refine s_val rfl (v_move rfl) (s_val rfl (v_extract rfl rfl) (s_val rfl (v_extract rfl rfl) (s_val rfl (v_assign rfl) (s_val rfl (v_assign rfl) (x_nil (n_then (x_seq (x_region (s_val rfl (v_move rfl) (s_do rfl (d_call Tryz.call26 rfl (rpNewT_spec W0 _ l al l.length cl rfl (sla_base hl) hok)) ?_))))))))))
      rintro _ B_ ⟨rp, rfl, hB_⟩
      obtain rfl := hB_.symm
      have hP0 := newP_okS hl8
      have hPl := newP_len l
      generalize newP l = p0 at hP0 hPl ⊢
      refine s_val rfl (v_move rfl) (s_val rfl (v_extract rfl rfl) (s_val rfl (v_extract rfl rfl) (s_val rfl (v_assign rfl) (s_val rfl (v_assign rfl) (x_nil (n_then (x_seq (x_seq (x_region (s_val rfl (v_move rfl) (s_val rfl (v_move rfl) (s_val rfl (v_neq rfl rfl) (x_nil (n_then ?_))))))))))))))
      refine x_if rfl ?_ ?_
      · intro c6
        exact absurd rfl c6
      · intro c6
        refine x_skip (n_then (x_seq (x_seq (x_region (s_val rfl (v_move rfl) (s_val rfl (v_neq rfl rfl) (x_nil (n_then ?_))))))))
        refine x_if rfl ?_ ?_
        · intro c8
          exact absurd rfl c8
        · intro c8
          refine x_skip (n_then ?_)
          refine x_cut (fun q : List Prt => PrS q ∧ q.length = l.length) (fun _ => [(1, .slice al l.length cl), (2, .slice ap pk.length cp), (3, .int .i64 port), (4, .slice ak ks.length ck), (5, .slice ag ags.length cg), (13, .pointer (some ⟨pv, 0, none⟩)), (14, .pointer (some ⟨bq, 0, none⟩)), (15, .pointer (some ⟨qv, 0, none⟩)), (16, .pointer (some ⟨br, 0, none⟩)), (17, .pointer (some ⟨p, 0, none⟩)), (19, .pointer (some ⟨rp, 0, none⟩))]) (fun q => pt bq (qO true q27) :: pt br (rqO q27) :: portsH p q :: rpH rp q :: prH pv ps pm qv qs qm d0 f0 (pg23 8) []) ?_ ?_
          · skip
            refine x_seq (x_region (s_val rfl (v_assign rfl) (x_nil (n_then (x_block ?_)))))
            refine x_loop (fun i : Nat => i ≤ pk.length) (fun i => [(1, .slice al l.length cl), (2, .slice ap pk.length cp), (3, .int .i64 port), (4, .slice ak ks.length ck), (5, .slice ag ags.length cg), (13, .pointer (some ⟨pv, 0, none⟩)), (14, .pointer (some ⟨bq, 0, none⟩)), (15, .pointer (some ⟨qv, 0, none⟩)), (16, .pointer (some ⟨br, 0, none⟩)), (17, .pointer (some ⟨p, 0, none⟩)), (19, .pointer (some ⟨rp, 0, none⟩)), (21, .int .i64 i)]) (fun i => pt bq (qO true q27) :: pt br (rqO q27) :: portsH p (arQ p0 pk port i) :: rpH rp (arQ p0 pk port i) :: prH pv ps pm qv qs qm d0 f0 (pg23 8) []) (fun i => 8 - i) 0 ?_ ?_ ?_ ?_
            · exact Nat.zero_le _
            · repeat (first | exact sub_nil | refine sub_cons rfl ?_)
            · simp only [arQ]; exact inferInstance
            · intro i hi
              have hPi := arQ_ok (pk := pk) (port := port) hP0 i
              refine x_seq (x_seq (x_region (s_val rfl (v_move rfl) (s_val rfl (v_move rfl) (s_val rfl (v_len_slice Tryz.underlying50 rfl) (s_val rfl (v_lss rfl rfl) (s_val rfl (v_move rfl) ?_)))))))
              refine s_and rfl rfl rfl ?_ ?_
              · intro g11_5
                refine s_val rfl (v_move rfl) (s_yes rfl rfl (s_val rfl (v_lss rfl rfl) (s_val rfl (v_pick_t rfl rfl) (x_nil (n_then ?_)))))
                refine x_if rfl ?_ ?_
                · intro c11
                  refine x_skip (n_then (x_seq (x_block (x_seq ?_))))
                  have hi1 : i < pk.length := by omega
                  obtain ⟨gp, op, rfl, hcp⟩ := hpk i pk[i] (by simp [hi1])
                  have hgd : pk.getD i ByteArray.empty = pk[i] := by simp [List.getD, hi1]
                  refine x_region (s_val rfl (v_move rfl) (s_val rfl (v_move rfl) (s_val rfl (v_move rfl) (s_val rfl (v_move rfl) ?_))))
                  refine s_val rfl (v_idx Tryz.underlying50 Tryz.sizeOf9 rfl rfl rfl hi1 (by first | exact Nat.zero_add _ | rfl)) ?_
                  refine s_val rfl (v_load Tryz.isAgg9 rfl (Cells.weak (hcp []) 0 _ rfl)) ?_
                  refine s_do rfl (d_call1 Tryz.call28 rfl (prArrive_spec W0 _ p (arQ p0 pk port i) hPi.1 port pk[i] (hps _ (List.getElem_mem hi1)))) ?_
                  rintro _ B_ ⟨rfl, hB_⟩
                  obtain rfl := hB_.symm
                  refine x_nil (n_then (x_region (s_val rfl (v_move rfl) (s_val rfl (v_move rfl) (s_val rfl (v_move rfl) (s_val rfl (v_move rfl) ?_))))))
                  refine s_val rfl (v_idx Tryz.underlying50 Tryz.sizeOf9 rfl rfl rfl hi1 (by first | exact Nat.zero_add _ | rfl)) ?_
                  refine s_val rfl (v_load Tryz.isAgg9 rfl (Cells.weak (hcp []) 0 _ rfl)) ?_
                  refine s_do rfl (d_call1 Tryz.call29 rfl (rpArrive_spec W0 _ rp (arQ p0 pk port i) hPi.1 port pk[i] (hps _ (List.getElem_mem hi1)))) ?_
                  rintro _ B_ ⟨rfl, hB_⟩
                  obtain rfl := hB_.symm
                  refine x_nil (n_block (n_then (x_region (s_val rfl (v_move rfl) ?_))))
                  refine s_val rfl (v_add rfl rfl (by first | exact w64 (by omega) | rfl)) ?_
                  refine s_val rfl (v_assign rfl) (x_nil (n_then ?_))
                  refine inv_intro (i + 1) ?_ ?_ ?_ ?_
                  · omega
                  · omega
                  · repeat (first | exact sub_nil | refine sub_cons rfl ?_)
                  · simp only [arQ, hgd]; exact inferInstance
                · intro c11
                  refine x_exit (e_then (e_then (e_block (n_then ?_))))
                  refine mid_intro (arQ p0 pk port i) ?_ ?_ ?_
                  · exact ⟨hPi, (arQ_len _ _ _ _).trans hPl⟩
                  · repeat (first | exact sub_nil | refine sub_cons rfl ?_)
                  · exact inferInstance
              · intro g11_5
                refine s_no rfl rfl rfl rfl (s_val rfl (v_pick_f rfl rfl) (x_nil (n_then (x_iff rfl (x_exit (e_then (e_then (e_block (n_then ?_)))))))))
                refine mid_intro (arQ p0 pk port i) ?_ ?_ ?_
                · exact ⟨hPi, (arQ_len _ _ _ _).trans hPl⟩
                · repeat (first | exact sub_nil | refine sub_cons rfl ?_)
                · exact inferInstance
          · intro q ⟨hq, hql⟩
            refine x_seq (x_seq (x_region (s_val rfl (v_assign rfl) (x_nil (n_then (x_block ?_))))))
            refine x_loop (fun X : Nat × SvS => X.1 ≤ ks.length ∧ SvOk 8 ⟨0, 128, 192, ((4 : Nat) : Int)⟩ X.2 ∧ X.2.ps.length = l.length) (fun X => [(1, .slice al l.length cl), (2, .slice ap pk.length cp), (3, .int .i64 port), (4, .slice ak ks.length ck), (5, .slice ag ags.length cg), (13, .pointer (some ⟨pv, 0, none⟩)), (14, .pointer (some ⟨bq, 0, none⟩)), (15, .pointer (some ⟨qv, 0, none⟩)), (16, .pointer (some ⟨br, 0, none⟩)), (17, .pointer (some ⟨p, 0, none⟩)), (19, .pointer (some ⟨rp, 0, none⟩)), (22, .int .i64 X.1)]) (fun X => pt bq (qO true X.2.s) :: pt br (rqO X.2.s) :: portsH p X.2.ps :: rpH rp X.2.ps :: prH pv ps pm qv qs qm X.2.d X.2.fr (pg23 8) []) (fun X => 6 - X.1) (0, ⟨f0, d0, q27, q, 0, 0, 0, 0⟩) ?_ ?_ ?_ ?_
            · exact ⟨Nat.zero_le _, sv_start q27_ok rfl hM1 hM2 hM3 hq, hql⟩
            · repeat (first | exact sub_nil | refine sub_cons rfl ?_)
            · exact inferInstance
            · intro ⟨k, x⟩ ⟨hk, hok1, hxl⟩
              dsimp only at hk hok1 hxl ⊢
              obtain ⟨fx, dx, ⟨⟨qd, qa, qu, qn⟩, qon, qbr, qlast, qput⟩, px, cx, nx, bx, wx⟩ := x
              obtain ⟨hF, hlen, hd, hs, hsr, hps1⟩ := hok1
              dsimp only at hF hlen hd hs hsr hps1 hxl ⊢
              cases hsr
              have hx0 := sv_start hs rfl hF hlen hd hps1
              have hyT := svGo_ok (tx := true) (pg := pg23 8) (port := port) 4 hx0
              have hyR := svGo_ok (tx := false) (pg := pg23 8) (port := port) 4 hx0
              have hlT := svGo_plen true (pg23 8) port 4 ⟨fx, dx, ⟨⟨0, 128, 192, ((4 : Nat) : Int)⟩, qon, qbr, qlast, qput⟩, px, 0, 0, 0, 0⟩
              have hlR := svGo_plen false (pg23 8) port 4 ⟨fx, dx, ⟨⟨0, 128, 192, ((4 : Nat) : Int)⟩, qon, qbr, qlast, qput⟩, px, 0, 0, 0, 0⟩
              refine x_seq (x_seq (x_region (s_val rfl (v_move rfl) (s_val rfl (v_move rfl) (s_val rfl (v_len_slice Tryz.underlying44 rfl) (s_val rfl (v_lss rfl rfl) (s_val rfl (v_move rfl) ?_)))))))
              refine s_and rfl rfl rfl ?_ ?_
              · intro g16_5
                refine s_val rfl (v_move rfl) (s_yes rfl rfl (s_val rfl (v_lss rfl rfl) (s_val rfl (v_pick_t rfl rfl) (x_nil (n_then ?_)))))
                refine x_if rfl ?_ ?_
                · intro c16
                  refine x_skip (n_then ?_)
                  refine x_cut (fun z : SvS => SvOk 8 ⟨0, 128, 192, ((4 : Nat) : Int)⟩ z ∧ z.ps.length = l.length) (fun _ => [(1, .slice al l.length cl), (2, .slice ap pk.length cp), (3, .int .i64 port), (4, .slice ak ks.length ck), (5, .slice ag ags.length cg), (13, .pointer (some ⟨pv, 0, none⟩)), (14, .pointer (some ⟨bq, 0, none⟩)), (15, .pointer (some ⟨qv, 0, none⟩)), (16, .pointer (some ⟨br, 0, none⟩)), (17, .pointer (some ⟨p, 0, none⟩)), (19, .pointer (some ⟨rp, 0, none⟩)), (22, .int .i64 k)]) (fun z => pt bq (qO true z.s) :: pt br (rqO z.s) :: portsH p z.ps :: rpH rp z.ps :: prH pv ps pm qv qs qm z.d z.fr (pg23 8) []) ?_ ?_
                  · skip
                    refine x_block ?_
                    refine x_cut (fun y : SvS => SvOk 8 ⟨0, 128, 192, ((4 : Nat) : Int)⟩ y ∧ y.ps.length = l.length) (fun _ => [(1, .slice al l.length cl), (2, .slice ap pk.length cp), (3, .int .i64 port), (4, .slice ak ks.length ck), (5, .slice ag ags.length cg), (13, .pointer (some ⟨pv, 0, none⟩)), (14, .pointer (some ⟨bq, 0, none⟩)), (15, .pointer (some ⟨qv, 0, none⟩)), (16, .pointer (some ⟨br, 0, none⟩)), (17, .pointer (some ⟨p, 0, none⟩)), (19, .pointer (some ⟨rp, 0, none⟩)), (22, .int .i64 k)]) (fun y => pt bq (qO true y.s) :: pt br (rqO y.s) :: portsH p y.ps :: rpH rp y.ps :: prH pv ps pm qv qs qm y.d y.fr (pg23 8) []) ?_ ?_
                    · skip
                      refine x_seq ?_
                      have hk1 : k < ks.length := by omega
                      obtain ⟨gk, ok, hak, hck⟩ := (sla_base (A := []) hks).at_ hk1
                      subst hak
                      have hkk := hkb.get hk1
                      generalize ks[k] = kd at hck hkk
                      have hkm := Nat.mod_lt kd (show 0 < 2 by decide)
                      refine x_draw [(gk, ok + k * 1, [bV kd])] 49 mixed rfl (sc_cons hck.weak sc_end) (fun hS => ?_)
                      refine d_take 0 rfl rfl (by kernel_rfl) (by kernel_rfl) (by kernel_rfl) rfl hS (v_move rfl) ?_
                      refine d_take 1 rfl rfl (by kernel_rfl) (by kernel_rfl) (by kernel_rfl) rfl hS (v_move rfl) ?_
                      refine d_take 2 rfl rfl (by kernel_rfl) (by kernel_rfl) (by kernel_rfl) rfl hS (v_idx Tryz.underlying44 Tryz.sizeOf5 rfl rfl rfl hk1 (by first | exact Nat.zero_add _ | rfl)) ?_
                      refine d_take 3 rfl rfl (by kernel_rfl) (by kernel_rfl) (by kernel_rfl) rfl hS (v_load Tryz.isAgg5 rfl (cell_sc1 (k := 0) rfl)) ?_
                      refine d_take 4 rfl rfl (by kernel_rfl) (by kernel_rfl) (by kernel_rfl) rfl hS (v_rem rfl rfl (by decide) (tmodN kd 2)) ?_
                      refine d_take 5 rfl rfl (by kernel_rfl) (by kernel_rfl) (by kernel_rfl) rfl hS (v_eql rfl rfl) ?_
                      refine d_take 6 rfl rfl (by kernel_rfl) (by kernel_rfl) (by kernel_rfl) rfl hS (v_move rfl) ?_
                      refine x_split (t := 99) rfl ?_ ?_
                      · intro g18_7
                        refine d_take 7 rfl rfl (by kernel_rfl) (by kernel_rfl) (by kernel_rfl) rfl hS (v_move rfl) ?_
                        refine d_take 8 rfl rfl (by kernel_rfl) (by kernel_rfl) (by kernel_rfl) rfl hS (v_move rfl) ?_
                        refine d_take 9 rfl rfl (by kernel_rfl) (by kernel_rfl) (by kernel_rfl) rfl hS (v_move rfl) ?_
                        refine d_take 10 rfl rfl (by kernel_rfl) (by kernel_rfl) (by kernel_rfl) rfl hS (v_move rfl) ?_
                        refine d_take 12 rfl rfl (by kernel_rfl) (by kernel_rfl) (by kernel_rfl) rfl hS (v_move rfl) ?_
                        refine d_take 13 rfl rfl (by kernel_rfl) (by kernel_rfl) (by kernel_rfl) rfl hS (v_move rfl) ?_
                        refine d_take 14 rfl rfl (by kernel_rfl) (by kernel_rfl) (by kernel_rfl) rfl hS (v_move rfl) ?_
                        refine d_take 15 rfl rfl (by kernel_rfl) (by kernel_rfl) (by kernel_rfl) rfl hS (v_move rfl) ?_
                        refine d_one 11 (by kernel_rfl) rfl rfl (d_call5 Tryz.call30 rfl (nicTx_spec W0 _ bq p pv ps pm (pg23 8) hP port fx dx 0 128 192 4 qlast qput qon qbr px (by decide) r27_ok 8 hx0)) rfl ?_; clear hS
                        rintro _ B_ ⟨y, hy, rfl, hB_⟩
                        obtain rfl := hB_.symm
                        rw [← hy] at hyT hlT
                        have hY : SvOk 8 ⟨0, 128, 192, ((4 : Nat) : Int)⟩ y ∧ y.ps.length = l.length := ⟨hyT, hlT.trans hxl⟩
                        refine ⟨(sc_cons hck.weak sc_end), fun hS => ?_⟩
                        refine d_one 16 (by kernel_rfl) rfl rfl (d_call5 Tryz.call31 rfl (rnTx_spec W0 _ br rp qv qs qm (pg23 8) hP port ⟨fx, dx, ⟨⟨0, 128, 192, ((4 : Nat) : Int)⟩, qon, qbr, qlast, qput⟩, px, 0, 0, 0, 0⟩ 4 8 0 128 192 (by decide) r27_ok hx0 ⟨rfl, rfl, rfl, rfl⟩)) rfl ?_; clear hS
                        rintro _ B_ ⟨y2, hy2, rfl, hB_⟩
                        obtain rfl := hB_.symm
                        obtain rfl : y2 = y := hy2.trans hy.symm
                        refine ⟨(sc_cons hck.weak sc_end), fun hS => ?_⟩
                        refine d_take 17 rfl rfl (by kernel_rfl) (by kernel_rfl) (by kernel_rfl) rfl hS (v_neq_agg Tryz.eqGuardType67 rfl rfl (q_struct Tryz.underlying67 Tryz.stoodInHeld67 (qf_scal rfl Tryz.isAgg3 rfl rfl (q_int Tryz.underlying3) (qf_scal rfl Tryz.isAgg3 rfl rfl (q_int Tryz.underlying3) (qf_scal rfl Tryz.isAgg3 rfl rfl (q_int Tryz.underlying3) (qf_scal rfl Tryz.isAgg3 rfl rfl (q_int Tryz.underlying3) qf_nil)))))) ?_
                        refine d_take 18 rfl rfl (by kernel_rfl) (by kernel_rfl) (by kernel_rfl) rfl hS (v_pick_t rfl rfl) ?_
                        refine d_take 19 rfl rfl (by kernel_rfl) (by kernel_rfl) (by kernel_rfl) rfl hS (v_move rfl) ?_
                        refine x_split (t := 112) rfl ?_ ?_
                        · intro g18_20
                          first | exact absurd rfl g18_20 | exact absurd (by simp) g18_20
                        · intro g18_20
                          refine d_take 20 rfl rfl (by kernel_rfl) (by kernel_rfl) (by kernel_rfl) rfl hS (v_move rfl) ?_
                          refine d_take 21 rfl rfl (by kernel_rfl) (by kernel_rfl) (by kernel_rfl) rfl hS (v_move rfl) ?_
                          refine d_take 22 rfl rfl (by kernel_rfl) (by kernel_rfl) (by kernel_rfl) rfl hS (v_idx Tryz.underlying44 Tryz.sizeOf5 rfl rfl rfl hk1 (by first | exact Nat.zero_add _ | rfl)) ?_
                          refine d_take 23 rfl rfl (by kernel_rfl) (by kernel_rfl) (by kernel_rfl) rfl hS (v_load Tryz.isAgg5 rfl (cell_sc1 (k := 0) rfl)) ?_
                          refine d_take 24 rfl rfl (by kernel_rfl) (by kernel_rfl) (by kernel_rfl) rfl hS (v_rem rfl rfl (by decide) (tmodN kd 2)) ?_
                          refine d_take 25 rfl rfl (by kernel_rfl) (by kernel_rfl) (by kernel_rfl) rfl hS (v_eql rfl rfl) ?_
                          refine d_take 26 rfl rfl (by kernel_rfl) (by kernel_rfl) (by kernel_rfl) rfl hS (v_move rfl) ?_
                          refine x_split (t := 119) rfl ?_ ?_
                          · intro g18_27
                            exfalso; omega
                          · intro g18_27
                            refine d_skip 27 rfl rfl (by kernel_rfl) (by kernel_rfl) (by kernel_rfl) rfl hS ?_
                            refine d_skip 28 rfl rfl (by kernel_rfl) (by kernel_rfl) (by kernel_rfl) rfl hS ?_
                            refine d_skip 29 rfl rfl (by kernel_rfl) (by kernel_rfl) (by kernel_rfl) rfl hS ?_
                            refine d_skip 30 rfl rfl (by kernel_rfl) (by kernel_rfl) (by kernel_rfl) rfl hS ?_
                            refine d_skip 31 rfl rfl (by kernel_rfl) (by kernel_rfl) (by kernel_rfl) rfl hS ?_
                            refine d_skip 32 rfl rfl (by kernel_rfl) (by kernel_rfl) (by kernel_rfl) rfl hS ?_
                            refine d_skip 33 rfl rfl (by kernel_rfl) (by kernel_rfl) (by kernel_rfl) rfl hS ?_
                            refine d_skip 34 rfl rfl (by kernel_rfl) (by kernel_rfl) (by kernel_rfl) rfl hS ?_
                            refine d_skip 35 rfl rfl (by kernel_rfl) (by kernel_rfl) (by kernel_rfl) rfl hS ?_
                            refine d_skip 36 rfl rfl (by kernel_rfl) (by kernel_rfl) (by kernel_rfl) rfl hS ?_
                            refine d_skip 37 rfl rfl (by kernel_rfl) (by kernel_rfl) (by kernel_rfl) rfl hS ?_
                            refine d_take 38 rfl rfl (by kernel_rfl) (by kernel_rfl) (by kernel_rfl) rfl hS (v_pick_f rfl rfl) ?_
                            refine d_take 39 rfl rfl (by kernel_rfl) (by kernel_rfl) (by kernel_rfl) rfl hS (v_pick_f rfl rfl) ?_
                            refine d_take 40 rfl rfl (by kernel_rfl) (by kernel_rfl) (by kernel_rfl) rfl hS (v_move rfl) ?_
                            refine d_take 41 rfl rfl (by kernel_rfl) (by kernel_rfl) (by kernel_rfl) rfl hS (v_move rfl) ?_
                            refine d_take 43 rfl rfl (by kernel_rfl) (by kernel_rfl) (by kernel_rfl) rfl hS (v_move rfl) ?_
                            refine d_take 44 rfl rfl (by kernel_rfl) (by kernel_rfl) (by kernel_rfl) rfl hS (v_nilCheck rfl) ?_
                            refine d_take 45 rfl rfl (by kernel_rfl) (by kernel_rfl) (by kernel_rfl) rfl hS (v_fieldAddr rfl Tryz.underlying76 rfl Tryz.sizeOf73 rfl (by first | exact Nat.zero_add _ | rfl)) ?_
                            refine d_all (is := [42, 46]) (by kernel_rfl) rfl ⟨?_, ?_, trivial⟩
                            · skip
                              refine dx_one rfl rfl (d_call1 Tryz.call34 rfl (qState_spec W0 _ bq _)) rfl ?_; clear hS
                              rintro _ B_ ⟨rfl, hB_⟩
                              obtain rfl := hB_.symm
                              refine ⟨(sc_cons hck.weak sc_end), fun hS => ?_⟩
                              refine d_one 46 (by kernel_rfl) rfl rfl (d_val (v_loadAll Tryz.isAgg73 Tryz.sizeOf73 rfl rfl)) rfl ?_; clear hS
                              rintro _ _ ⟨rfl, rfl⟩
                              refine ⟨(sc_cons hck.weak sc_end), fun hS => ?_⟩
                              refine d_take 47 rfl rfl (by kernel_rfl) (by kernel_rfl) (by kernel_rfl) rfl hS (v_neq_agg Tryz.eqGuardType73 rfl rfl (q_struct Tryz.underlying73 Tryz.stoodInHeld73 (qf_gen rfl (part_agg Tryz.isAgg71 Tryz.sizeOf71 TakeL.eq) (part_agg Tryz.isAgg71 Tryz.sizeOf71 TakeL.eq) (q_struct Tryz.underlying71 Tryz.stoodInHeld71 (qf_scal rfl Tryz.isAgg47 rfl rfl (q_int Tryz.underlying47) (qf_scal rfl Tryz.isAgg47 rfl rfl (q_int Tryz.underlying47) (qf_scal rfl Tryz.isAgg47 rfl rfl (q_int Tryz.underlying47) (qf_scal rfl Tryz.isAgg3 rfl rfl (q_int Tryz.underlying3) qf_nil))))) (qf_scal rfl Tryz.isAgg4 rfl rfl (q_bool Tryz.underlying4) (qf_scal rfl Tryz.isAgg3 rfl rfl (q_int Tryz.underlying3) (qf_scal rfl Tryz.isAgg3 rfl rfl (q_int Tryz.underlying3) (qf_scal rfl Tryz.isAgg3 rfl rfl (q_int Tryz.underlying3) qf_nil))))))) ?_
                              refine d_take 48 rfl rfl (by kernel_rfl) (by kernel_rfl) (by kernel_rfl) rfl hS (v_pick_f rfl rfl) ?_
                              refine d_done (by kernel_rfl) ?_; clear hS
                              refine n_then ?_
                              refine x_if rfl ?_ ?_
                              · intro c18
                                first | exact absurd rfl c18 | exact absurd (by simp) c18
                              · intro c18
                                refine x_skip (n_then ?_)
                                refine mid_intro y2 ?_ ?_ ?_
                                · exact hY
                                · repeat (first | exact sub_nil | refine sub_cons rfl ?_)
                                · exact inferInstance
                            · skip
                              refine dx_one rfl rfl (d_val (v_loadAll Tryz.isAgg73 Tryz.sizeOf73 rfl rfl)) rfl ?_; clear hS
                              rintro _ _ ⟨rfl, rfl⟩
                              refine ⟨(sc_cons hck.weak sc_end), fun hS => ?_⟩
                              refine d_one 42 (by kernel_rfl) rfl rfl (d_call1 Tryz.call34 rfl (qState_spec W0 _ bq _)) rfl ?_; clear hS
                              rintro _ B_ ⟨rfl, hB_⟩
                              obtain rfl := hB_.symm
                              refine ⟨(sc_cons hck.weak sc_end), fun hS => ?_⟩
                              refine d_take 47 rfl rfl (by kernel_rfl) (by kernel_rfl) (by kernel_rfl) rfl hS (v_neq_agg Tryz.eqGuardType73 rfl rfl (q_struct Tryz.underlying73 Tryz.stoodInHeld73 (qf_gen rfl (part_agg Tryz.isAgg71 Tryz.sizeOf71 TakeL.eq) (part_agg Tryz.isAgg71 Tryz.sizeOf71 TakeL.eq) (q_struct Tryz.underlying71 Tryz.stoodInHeld71 (qf_scal rfl Tryz.isAgg47 rfl rfl (q_int Tryz.underlying47) (qf_scal rfl Tryz.isAgg47 rfl rfl (q_int Tryz.underlying47) (qf_scal rfl Tryz.isAgg47 rfl rfl (q_int Tryz.underlying47) (qf_scal rfl Tryz.isAgg3 rfl rfl (q_int Tryz.underlying3) qf_nil))))) (qf_scal rfl Tryz.isAgg4 rfl rfl (q_bool Tryz.underlying4) (qf_scal rfl Tryz.isAgg3 rfl rfl (q_int Tryz.underlying3) (qf_scal rfl Tryz.isAgg3 rfl rfl (q_int Tryz.underlying3) (qf_scal rfl Tryz.isAgg3 rfl rfl (q_int Tryz.underlying3) qf_nil))))))) ?_
                              refine d_take 48 rfl rfl (by kernel_rfl) (by kernel_rfl) (by kernel_rfl) rfl hS (v_pick_f rfl rfl) ?_
                              refine d_done (by kernel_rfl) ?_; clear hS
                              refine n_then ?_
                              refine x_if rfl ?_ ?_
                              · intro c18
                                first | exact absurd rfl c18 | exact absurd (by simp) c18
                              · intro c18
                                refine x_skip (n_then ?_)
                                refine mid_intro y2 ?_ ?_ ?_
                                · exact hY
                                · repeat (first | exact sub_nil | refine sub_cons rfl ?_)
                                · exact inferInstance
                      · intro g18_7
                        refine d_skip 7 rfl rfl (by kernel_rfl) (by kernel_rfl) (by kernel_rfl) rfl hS ?_
                        refine d_skip 8 rfl rfl (by kernel_rfl) (by kernel_rfl) (by kernel_rfl) rfl hS ?_
                        refine d_skip 9 rfl rfl (by kernel_rfl) (by kernel_rfl) (by kernel_rfl) rfl hS ?_
                        refine d_skip 10 rfl rfl (by kernel_rfl) (by kernel_rfl) (by kernel_rfl) rfl hS ?_
                        refine d_skip 11 rfl rfl (by kernel_rfl) (by kernel_rfl) (by kernel_rfl) rfl hS ?_
                        refine d_skip 12 rfl rfl (by kernel_rfl) (by kernel_rfl) (by kernel_rfl) rfl hS ?_
                        refine d_skip 13 rfl rfl (by kernel_rfl) (by kernel_rfl) (by kernel_rfl) rfl hS ?_
                        refine d_skip 14 rfl rfl (by kernel_rfl) (by kernel_rfl) (by kernel_rfl) rfl hS ?_
                        refine d_skip 15 rfl rfl (by kernel_rfl) (by kernel_rfl) (by kernel_rfl) rfl hS ?_
                        refine d_skip 16 rfl rfl (by kernel_rfl) (by kernel_rfl) (by kernel_rfl) rfl hS ?_
                        refine d_skip 17 rfl rfl (by kernel_rfl) (by kernel_rfl) (by kernel_rfl) rfl hS ?_
                        refine d_take 18 rfl rfl (by kernel_rfl) (by kernel_rfl) (by kernel_rfl) rfl hS (v_pick_f rfl rfl) ?_
                        refine d_take 19 rfl rfl (by kernel_rfl) (by kernel_rfl) (by kernel_rfl) rfl hS (v_move rfl) ?_
                        refine d_take 20 rfl rfl (by kernel_rfl) (by kernel_rfl) (by kernel_rfl) rfl hS (v_move rfl) ?_
                        refine d_take 21 rfl rfl (by kernel_rfl) (by kernel_rfl) (by kernel_rfl) rfl hS (v_move rfl) ?_
                        refine d_take 22 rfl rfl (by kernel_rfl) (by kernel_rfl) (by kernel_rfl) rfl hS (v_idx Tryz.underlying44 Tryz.sizeOf5 rfl rfl rfl hk1 (by first | exact Nat.zero_add _ | rfl)) ?_
                        refine d_take 23 rfl rfl (by kernel_rfl) (by kernel_rfl) (by kernel_rfl) rfl hS (v_load Tryz.isAgg5 rfl (cell_sc1 (k := 0) rfl)) ?_
                        refine d_take 24 rfl rfl (by kernel_rfl) (by kernel_rfl) (by kernel_rfl) rfl hS (v_rem rfl rfl (by decide) (tmodN kd 2)) ?_
                        refine d_take 25 rfl rfl (by kernel_rfl) (by kernel_rfl) (by kernel_rfl) rfl hS (v_eql rfl rfl) ?_
                        refine d_take 26 rfl rfl (by kernel_rfl) (by kernel_rfl) (by kernel_rfl) rfl hS (v_move rfl) ?_
                        refine x_split (t := 119) rfl ?_ ?_
                        · intro g18_27
                          refine d_take 27 rfl rfl (by kernel_rfl) (by kernel_rfl) (by kernel_rfl) rfl hS (v_move rfl) ?_
                          refine d_take 28 rfl rfl (by kernel_rfl) (by kernel_rfl) (by kernel_rfl) rfl hS (v_move rfl) ?_
                          refine d_take 29 rfl rfl (by kernel_rfl) (by kernel_rfl) (by kernel_rfl) rfl hS (v_move rfl) ?_
                          refine d_take 30 rfl rfl (by kernel_rfl) (by kernel_rfl) (by kernel_rfl) rfl hS (v_move rfl) ?_
                          refine d_take 32 rfl rfl (by kernel_rfl) (by kernel_rfl) (by kernel_rfl) rfl hS (v_move rfl) ?_
                          refine d_take 33 rfl rfl (by kernel_rfl) (by kernel_rfl) (by kernel_rfl) rfl hS (v_move rfl) ?_
                          refine d_take 34 rfl rfl (by kernel_rfl) (by kernel_rfl) (by kernel_rfl) rfl hS (v_move rfl) ?_
                          refine d_take 35 rfl rfl (by kernel_rfl) (by kernel_rfl) (by kernel_rfl) rfl hS (v_move rfl) ?_
                          refine d_one 31 (by kernel_rfl) rfl rfl (d_call5 Tryz.call32 rfl (nicRx_spec W0 _ bq p pv ps pm (pg23 8) hP port fx dx 0 128 192 4 qlast qput qon qbr px (by decide) r27_ok 8 hx0)) rfl ?_; clear hS
                          rintro _ B_ ⟨y, hy, rfl, hB_⟩
                          obtain rfl := hB_.symm
                          rw [← hy] at hyR hlR
                          have hY : SvOk 8 ⟨0, 128, 192, ((4 : Nat) : Int)⟩ y ∧ y.ps.length = l.length := ⟨hyR, hlR.trans hxl⟩
                          refine ⟨(sc_cons hck.weak sc_end), fun hS => ?_⟩
                          refine d_one 36 (by kernel_rfl) rfl rfl (d_call5 Tryz.call33 rfl (rnRx_spec W0 _ br rp qv qs qm (pg23 8) hP port ⟨fx, dx, ⟨⟨0, 128, 192, ((4 : Nat) : Int)⟩, qon, qbr, qlast, qput⟩, px, 0, 0, 0, 0⟩ 4 8 0 128 192 (by decide) r27_ok hx0 ⟨rfl, rfl, rfl, rfl⟩)) rfl ?_; clear hS
                          rintro _ B_ ⟨y2, hy2, rfl, hB_⟩
                          obtain rfl := hB_.symm
                          obtain rfl : y2 = y := hy2.trans hy.symm
                          refine ⟨(sc_cons hck.weak sc_end), fun hS => ?_⟩
                          refine d_take 37 rfl rfl (by kernel_rfl) (by kernel_rfl) (by kernel_rfl) rfl hS (v_neq_agg Tryz.eqGuardType67 rfl rfl (q_struct Tryz.underlying67 Tryz.stoodInHeld67 (qf_scal rfl Tryz.isAgg3 rfl rfl (q_int Tryz.underlying3) (qf_scal rfl Tryz.isAgg3 rfl rfl (q_int Tryz.underlying3) (qf_scal rfl Tryz.isAgg3 rfl rfl (q_int Tryz.underlying3) (qf_scal rfl Tryz.isAgg3 rfl rfl (q_int Tryz.underlying3) qf_nil)))))) ?_
                          refine d_take 38 rfl rfl (by kernel_rfl) (by kernel_rfl) (by kernel_rfl) rfl hS (v_pick_t rfl rfl) ?_
                          refine d_take 39 rfl rfl (by kernel_rfl) (by kernel_rfl) (by kernel_rfl) rfl hS (v_pick_f rfl rfl) ?_
                          refine d_take 40 rfl rfl (by kernel_rfl) (by kernel_rfl) (by kernel_rfl) rfl hS (v_move rfl) ?_
                          refine x_split (t := 133) rfl ?_ ?_
                          · intro g18_41
                            first | exact absurd rfl g18_41 | exact absurd (by simp) g18_41
                          · intro g18_41
                            refine d_take 41 rfl rfl (by kernel_rfl) (by kernel_rfl) (by kernel_rfl) rfl hS (v_move rfl) ?_
                            refine d_take 43 rfl rfl (by kernel_rfl) (by kernel_rfl) (by kernel_rfl) rfl hS (v_move rfl) ?_
                            refine d_take 44 rfl rfl (by kernel_rfl) (by kernel_rfl) (by kernel_rfl) rfl hS (v_nilCheck rfl) ?_
                            refine d_take 45 rfl rfl (by kernel_rfl) (by kernel_rfl) (by kernel_rfl) rfl hS (v_fieldAddr rfl Tryz.underlying76 rfl Tryz.sizeOf73 rfl (by first | exact Nat.zero_add _ | rfl)) ?_
                            refine d_all (is := [42, 46]) (by kernel_rfl) rfl ⟨?_, ?_, trivial⟩
                            · skip
                              refine dx_one rfl rfl (d_call1 Tryz.call34 rfl (qState_spec W0 _ bq _)) rfl ?_; clear hS
                              rintro _ B_ ⟨rfl, hB_⟩
                              obtain rfl := hB_.symm
                              refine ⟨(sc_cons hck.weak sc_end), fun hS => ?_⟩
                              refine d_one 46 (by kernel_rfl) rfl rfl (d_val (v_loadAll Tryz.isAgg73 Tryz.sizeOf73 rfl rfl)) rfl ?_; clear hS
                              rintro _ _ ⟨rfl, rfl⟩
                              refine ⟨(sc_cons hck.weak sc_end), fun hS => ?_⟩
                              refine d_take 47 rfl rfl (by kernel_rfl) (by kernel_rfl) (by kernel_rfl) rfl hS (v_neq_agg Tryz.eqGuardType73 rfl rfl (q_struct Tryz.underlying73 Tryz.stoodInHeld73 (qf_gen rfl (part_agg Tryz.isAgg71 Tryz.sizeOf71 TakeL.eq) (part_agg Tryz.isAgg71 Tryz.sizeOf71 TakeL.eq) (q_struct Tryz.underlying71 Tryz.stoodInHeld71 (qf_scal rfl Tryz.isAgg47 rfl rfl (q_int Tryz.underlying47) (qf_scal rfl Tryz.isAgg47 rfl rfl (q_int Tryz.underlying47) (qf_scal rfl Tryz.isAgg47 rfl rfl (q_int Tryz.underlying47) (qf_scal rfl Tryz.isAgg3 rfl rfl (q_int Tryz.underlying3) qf_nil))))) (qf_scal rfl Tryz.isAgg4 rfl rfl (q_bool Tryz.underlying4) (qf_scal rfl Tryz.isAgg3 rfl rfl (q_int Tryz.underlying3) (qf_scal rfl Tryz.isAgg3 rfl rfl (q_int Tryz.underlying3) (qf_scal rfl Tryz.isAgg3 rfl rfl (q_int Tryz.underlying3) qf_nil))))))) ?_
                              refine d_take 48 rfl rfl (by kernel_rfl) (by kernel_rfl) (by kernel_rfl) rfl hS (v_pick_f rfl rfl) ?_
                              refine d_done (by kernel_rfl) ?_; clear hS
                              refine n_then ?_
                              refine x_if rfl ?_ ?_
                              · intro c18
                                first | exact absurd rfl c18 | exact absurd (by simp) c18
                              · intro c18
                                refine x_skip (n_then ?_)
                                refine mid_intro y2 ?_ ?_ ?_
                                · exact hY
                                · repeat (first | exact sub_nil | refine sub_cons rfl ?_)
                                · exact inferInstance
                            · skip
                              refine dx_one rfl rfl (d_val (v_loadAll Tryz.isAgg73 Tryz.sizeOf73 rfl rfl)) rfl ?_; clear hS
                              rintro _ _ ⟨rfl, rfl⟩
                              refine ⟨(sc_cons hck.weak sc_end), fun hS => ?_⟩
                              refine d_one 42 (by kernel_rfl) rfl rfl (d_call1 Tryz.call34 rfl (qState_spec W0 _ bq _)) rfl ?_; clear hS
                              rintro _ B_ ⟨rfl, hB_⟩
                              obtain rfl := hB_.symm
                              refine ⟨(sc_cons hck.weak sc_end), fun hS => ?_⟩
                              refine d_take 47 rfl rfl (by kernel_rfl) (by kernel_rfl) (by kernel_rfl) rfl hS (v_neq_agg Tryz.eqGuardType73 rfl rfl (q_struct Tryz.underlying73 Tryz.stoodInHeld73 (qf_gen rfl (part_agg Tryz.isAgg71 Tryz.sizeOf71 TakeL.eq) (part_agg Tryz.isAgg71 Tryz.sizeOf71 TakeL.eq) (q_struct Tryz.underlying71 Tryz.stoodInHeld71 (qf_scal rfl Tryz.isAgg47 rfl rfl (q_int Tryz.underlying47) (qf_scal rfl Tryz.isAgg47 rfl rfl (q_int Tryz.underlying47) (qf_scal rfl Tryz.isAgg47 rfl rfl (q_int Tryz.underlying47) (qf_scal rfl Tryz.isAgg3 rfl rfl (q_int Tryz.underlying3) qf_nil))))) (qf_scal rfl Tryz.isAgg4 rfl rfl (q_bool Tryz.underlying4) (qf_scal rfl Tryz.isAgg3 rfl rfl (q_int Tryz.underlying3) (qf_scal rfl Tryz.isAgg3 rfl rfl (q_int Tryz.underlying3) (qf_scal rfl Tryz.isAgg3 rfl rfl (q_int Tryz.underlying3) qf_nil))))))) ?_
                              refine d_take 48 rfl rfl (by kernel_rfl) (by kernel_rfl) (by kernel_rfl) rfl hS (v_pick_f rfl rfl) ?_
                              refine d_done (by kernel_rfl) ?_; clear hS
                              refine n_then ?_
                              refine x_if rfl ?_ ?_
                              · intro c18
                                first | exact absurd rfl c18 | exact absurd (by simp) c18
                              · intro c18
                                refine x_skip (n_then ?_)
                                refine mid_intro y2 ?_ ?_ ?_
                                · exact hY
                                · repeat (first | exact sub_nil | refine sub_cons rfl ?_)
                                · exact inferInstance
                        · intro g18_27
                          exfalso; omega
                    · intro y ⟨hyo, hyl⟩
                      refine x_seq (x_seq ?_)
                      obtain ⟨fg, dg, sg, pz, cy, ny, wb, wy⟩ := y
                      obtain ⟨hG, hGl, hGd, hGs, hGr, hGp⟩ := hyo
                      dsimp only at hG hGl hGd hGs hGr hGp hyl ⊢
                      refine x_region (s_val rfl (v_assign rfl) (x_nil (n_then (x_block ?_))))
                      refine x_loop (fun i : Nat => i ≤ 8) (fun i => [(1, .slice al l.length cl), (2, .slice ap pk.length cp), (3, .int .i64 port), (4, .slice ak ks.length ck), (5, .slice ag ags.length cg), (13, .pointer (some ⟨pv, 0, none⟩)), (14, .pointer (some ⟨bq, 0, none⟩)), (15, .pointer (some ⟨qv, 0, none⟩)), (16, .pointer (some ⟨br, 0, none⟩)), (17, .pointer (some ⟨p, 0, none⟩)), (19, .pointer (some ⟨rp, 0, none⟩)), (22, .int .i64 k), (23, .int .i64 i)]) (fun i => prH pv ps pm qv qs qm dg fg (pg23 8) (pt bq (qO true sg) :: pt br (rqO sg) :: portsH p pz :: rpH rp pz :: [])) (fun i => 8 - i) 0 ?_ ?_ ?_ ?_
                      · exact Nat.zero_le _
                      · repeat (first | exact sub_nil | refine sub_cons rfl ?_)
                      · exact inferInstance
                      · intro i hi
                        refine x_seq (x_seq (x_region (s_val rfl (v_move rfl) (s_val rfl (v_lss rfl rfl) (x_nil (n_then ?_))))))
                        refine x_if rfl ?_ ?_
                        · intro c21
                          refine x_skip (n_then (x_seq (x_block (x_seq (x_region (s_val rfl (v_move rfl) (s_do rfl (d_call1 Tryz.call35 rfl (viStore_spec W0 _ pv ps pm dg)) ?_)))))))
                          rintro _ B_ ⟨rfl, hB_⟩
                          obtain rfl := hB_.symm
                          refine s_val rfl (v_move rfl) ?_
                          refine s_do rfl (d_call1 Tryz.call36 rfl (frBytes_spec W0 _ ps fg hG i (by omega))) ?_
                          rintro _ B_ ⟨a3, k3, rfl, hB_⟩
                          obtain rfl := hB_.symm
                          refine s_val rfl (v_move rfl) (s_val rfl (v_extract rfl rfl) (s_val rfl (v_extract rfl rfl) (s_val rfl (v_assign rfl) (s_val rfl (v_assign rfl) (x_nil (n_then (x_seq ?_)))))))
                          have hY := (hG.get (f := i) (by omega))
                          refine run_form (E := 5) (sz := 1) (a := a3) (c := k3) (n := 64) (fun hf3 => ?_)
                          refine run_rstoG (qs := qs) (i := i) (by omega) fun a4 k4 vs vi hv hvi => ?_
                          refine run_some (E := 5) (sz := 1) (vi := vi) (byV_ne (by omega)) fun g5 n5 k5 hvie hn5 => ?_
                          subst hvie
                          obtain rfl : n5 = 64 := by rw [byV_len, hY.1] at hn5; omega
                          refine run_some (E := 44) (sz := 1) (vi := .slice a4 fg.length k4) (by intro h0; rw [h0] at hv; simp at hv; omega) fun g6 n6 k6 he6 hn6 => ?_
                          obtain ⟨rfl, _, rfl⟩ := Value.slice.inj he6
                          generalize hYe : fg.getD i [] = Y at hY hf3 ⊢
                          refine x_draw [(qv, 0, _), (qs, 0, _), (g6, 0, vs), (g5, 0, byV Y), (obk a3, 0, byV Y)] 18 mixed rfl (sc_own (sc_own (sc_cons (cells_osl (E := 44) (sz := 1) (a := some ⟨g6, 0, none⟩) (n := fg.length) (c := k4)) (sc_cons (cells_osl (E := 5) (sz := 1) (a := some ⟨g5, 0, none⟩) (n := 64) (c := k5)) (sc_cons (cells_osl (E := 5) (sz := 1) (a := a3) (n := 64) (c := k3)) sc_end))))) (fun hS => ?_)
                          refine d_take 0 rfl rfl (by kernel_rfl) (by kernel_rfl) (by kernel_rfl) rfl hS (v_move rfl) ?_
                          refine d_take 1 rfl rfl (by kernel_rfl) (by kernel_rfl) (by kernel_rfl) rfl hS (v_neq rfl rfl) ?_
                          refine d_take 2 rfl rfl (by kernel_rfl) (by kernel_rfl) (by kernel_rfl) rfl hS (v_move rfl) ?_
                          refine x_split (t := 155) rfl ?_ ?_
                          · intro g24_3
                            exact absurd rfl g24_3
                          · intro g24_3
                            refine d_take 3 rfl rfl (by kernel_rfl) (by kernel_rfl) (by kernel_rfl) rfl hS (v_move rfl) ?_
                            refine d_take 4 rfl rfl (by kernel_rfl) (by kernel_rfl) (by kernel_rfl) rfl hS (v_bstrSN Tryz.underlying44 Tryz.underlying5 Tryz.underlying9 rfl hY.1 (sla_cells hf3 (cells_sc (k := 4) rfl) (fun _ => rfl) (byV_fm _).symm (by decide))) ?_
                            refine d_take 5 rfl rfl (by kernel_rfl) (by kernel_rfl) (by kernel_rfl) rfl hS (v_move rfl) ?_
                            refine d_take 6 rfl rfl (by kernel_rfl) (by kernel_rfl) (by kernel_rfl) rfl hS (v_nilCheck rfl) ?_
                            refine d_take 7 rfl rfl (by kernel_rfl) (by kernel_rfl) (by kernel_rfl) rfl hS (v_fieldAddr rfl Tryz.underlying87 rfl Tryz.sizeOf83 rfl (by first | exact Nat.zero_add _ | rfl)) ?_
                            refine d_take 8 rfl rfl (by kernel_rfl) (by kernel_rfl) (by kernel_rfl) rfl hS (v_load Tryz.isAgg83 rfl (by first | exact cell_sc0 (k := 0) rfl rfl | exact cell_sc0 (k := 1) rfl rfl | exact cell_sc0 (k := 2) rfl rfl | exact cell_sc0 (k := 3) rfl rfl | exact cell_sc0 (k := 4) rfl rfl)) ?_
                            refine d_take 9 rfl rfl (by kernel_rfl) (by kernel_rfl) (by kernel_rfl) rfl hS (v_nilCheck rfl) ?_
                            refine d_take 10 rfl rfl (by kernel_rfl) (by kernel_rfl) (by kernel_rfl) rfl hS (v_fieldAddr rfl Tryz.underlying82 rfl Tryz.sizeOf46 rfl (by first | exact Nat.zero_add _ | rfl)) ?_
                            refine d_take 11 rfl rfl (by kernel_rfl) (by kernel_rfl) (by kernel_rfl) rfl hS (v_load Tryz.isAgg46 rfl (by first | exact cell_sc0 (k := 0) rfl rfl | exact cell_sc0 (k := 1) rfl rfl | exact cell_sc0 (k := 2) rfl rfl | exact cell_sc0 (k := 3) rfl rfl | exact cell_sc0 (k := 4) rfl rfl)) ?_
                            refine d_take 12 rfl rfl (by kernel_rfl) (by kernel_rfl) (by kernel_rfl) rfl hS (v_move rfl) ?_
                            refine d_take 13 rfl rfl (by kernel_rfl) (by kernel_rfl) (by kernel_rfl) rfl hS (v_idx Tryz.underlying46 Tryz.sizeOf44 rfl rfl rfl (by omega) (by first | exact Nat.zero_add _ | rfl)) ?_
                            refine d_take 14 rfl rfl (by kernel_rfl) (by kernel_rfl) (by kernel_rfl) rfl hS (v_load Tryz.isAgg44 rfl (cell_sc0 (k := 2) rfl (by rw [Nat.mul_one]; exact hvi))) ?_
                            refine d_take 15 rfl rfl (by kernel_rfl) (by kernel_rfl) (by kernel_rfl) rfl hS (v_bstrSN Tryz.underlying44 Tryz.underlying5 Tryz.underlying9 rfl hY.1 (sla_cells (.inr ⟨g5, rfl⟩) (cells_sc (k := 3) rfl) (fun _ => rfl) (byV_fm _).symm (by decide))) ?_
                            refine d_take 16 rfl rfl (by kernel_rfl) (by kernel_rfl) (by kernel_rfl) rfl hS (v_neq_str rfl rfl) ?_
                            refine d_take 17 rfl rfl (by kernel_rfl) (by kernel_rfl) (by kernel_rfl) rfl hS (v_pick_f rfl rfl) ?_
                            refine d_done (by kernel_rfl) ?_; clear hS
                            refine n_then ?_
                            refine x_if rfl ?_ ?_
                            · intro c24
                              exact absurd (by simp) c24
                            · intro c24
                              refine x_skip (n_block (n_then ?_))
                              refine run_rstoU (qs := qs) (fr := fg) (i := i) (n := fg.length) (c := k4) (a := some ⟨g6, 0, none⟩) (vs := vs) (vi := .slice (some ⟨g5, 0, none⟩) 64 k5) hvi (by rw [hYe]) hv rfl (by omega) ?_
                              refine x_region (s_val rfl (v_move rfl) ?_)
                              refine s_val rfl (v_add rfl rfl (by first | exact w64 (by omega) | rfl)) ?_
                              refine s_val rfl (v_assign rfl) (x_nil (n_then ?_))
                              refine inv_intro (i + 1) ?_ ?_ ?_ ?_
                              · omega
                              · omega
                              · repeat (first | exact sub_nil | refine sub_cons rfl ?_)
                              · exact inferInstance
                        · intro c21
                          refine x_exit (e_then (e_then (e_block (n_then (x_seq (x_seq (x_region (s_val rfl (v_assign rfl) (x_nil (n_then (x_block ?_)))))))))))
                          refine x_loop (fun i : Nat => i ≤ l.length) (fun i => [(1, .slice al l.length cl), (2, .slice ap pk.length cp), (3, .int .i64 port), (4, .slice ak ks.length ck), (5, .slice ag ags.length cg), (13, .pointer (some ⟨pv, 0, none⟩)), (14, .pointer (some ⟨bq, 0, none⟩)), (15, .pointer (some ⟨qv, 0, none⟩)), (16, .pointer (some ⟨br, 0, none⟩)), (17, .pointer (some ⟨p, 0, none⟩)), (19, .pointer (some ⟨rp, 0, none⟩)), (22, .int .i64 k), (26, .int .i64 i)]) (fun i => portsH p pz :: rpH rp pz :: prH pv ps pm qv qs qm dg fg (pg23 8) (pt bq (qO true sg) :: pt br (rqO sg) :: [])) (fun i => l.length - i) 0 ?_ ?_ ?_ ?_
                          · exact Nat.zero_le _
                          · repeat (first | exact sub_nil | refine sub_cons rfl ?_)
                          · exact inferInstance
                          · intro j hj
                            refine x_seq (x_seq (x_region (s_val rfl (v_move rfl) (s_val rfl (v_move rfl) (s_val rfl (v_len_slice Tryz.underlying24 rfl) (s_val rfl (v_lss rfl rfl) (x_nil (n_then ?_))))))))
                            refine x_if rfl ?_ ?_
                            · intro c27
                              refine x_skip (n_then (x_seq (x_block (x_seq (x_region (s_val rfl (v_move rfl) (s_val rfl (v_move rfl) (s_do rfl (d_call1 Tryz.call37 rfl (prOut_spec W0 _ p pz hGp.1 (j : Int))) ?_))))))))
                              rintro _ B_ ⟨ao, ko, rfl, hB_⟩
                              obtain rfl := hB_.symm
                              refine s_val rfl (v_assign rfl) (x_nil (n_then (x_seq (x_region (s_val rfl (v_move rfl) (s_val rfl (v_move rfl) (s_do rfl (d_call1 Tryz.call38 rfl (rpTold_spec W0 _ rp pz (j : Int))) ?_)))))))
                              rintro _ B_ ⟨at_, kt, CC, rfl, hB_, hcl, hwt⟩
                              obtain rfl := hB_.symm
                              have hL64 := ouP_le hGp.1 (j : Int)
                              generalize ouP pz (j : Int) = L at hcl hL64 ⊢
                              refine s_val rfl (v_assign rfl) (x_nil (n_then (x_seq (x_seq (x_region (s_val rfl (v_move rfl) (s_val rfl (v_move rfl) (s_do rfl (d_call1 Tryz.call39 rfl (prWaits_spec W0 _ p pz (j : Int))) ?_))))))))
                              rintro _ B_ ⟨rfl, hB_⟩
                              obtain rfl := hB_.symm
                              refine s_val rfl (v_move rfl) (s_val rfl (v_move rfl) (s_do rfl (d_call Tryz.call40 rfl (spec_perm (perm1 (r1 := kH) (b1 := 4)) (hwt (j : Int) _))) ?_))
                              rintro _ B_ ⟨rfl, hB_⟩
                              obtain rfl := hB_.symm
                              refine s_val rfl (v_neq rfl rfl) (s_val rfl (v_move rfl) ?_)
                              refine s_or rfl rfl rfl ?_ ?_
                              · intro g31_8
                                exact absurd rfl g31_8
                              · intro g31_8
                                refine s_val rfl (v_move rfl) (s_yes rfl rfl (s_val rfl (v_len_slice Tryz.underlying50 rfl) (s_yes rfl rfl (s_val rfl (v_move rfl) (s_yes rfl rfl (s_val rfl (v_len_slice Tryz.underlying50 rfl) (s_yes rfl rfl (s_val rfl (v_neq rfl rfl) (s_val rfl (v_pick_f rfl rfl) (x_nil (n_then ?_)))))))))))
                                refine x_if rfl ?_ ?_
                                · intro c31
                                  exact absurd rfl c31
                                · intro c31
                                  refine x_skip (n_then (x_seq (x_region (s_val rfl (v_assign rfl) (x_nil (n_then (x_block ?_)))))))
                                  refine x_loop (fun i : Nat => i ≤ L.length) (fun i => [(1, .slice al l.length cl), (2, .slice ap pk.length cp), (3, .int .i64 port), (4, .slice ak ks.length ck), (5, .slice ag ags.length cg), (13, .pointer (some ⟨pv, 0, none⟩)), (14, .pointer (some ⟨bq, 0, none⟩)), (15, .pointer (some ⟨qv, 0, none⟩)), (16, .pointer (some ⟨br, 0, none⟩)), (17, .pointer (some ⟨p, 0, none⟩)), (19, .pointer (some ⟨rp, 0, none⟩)), (22, .int .i64 k), (26, .int .i64 j), (27, .slice ao L.length ko), (28, .slice at_ L.length kt), (29, .int .i64 i)]) (fun i => osl 9 1 (.slice at_ L.length kt) (strs L) :: kH 4 CC :: osl 9 1 (.slice ao L.length ko) (strs L) :: portsH p pz :: prH pv ps pm qv qs qm dg fg (pg23 8) (pt bq (qO true sg) :: pt br (rqO sg) :: [])) (fun i => L.length - i) 0 ?_ ?_ ?_ ?_
                                  · exact Nat.zero_le _
                                  · repeat (first | exact sub_nil | refine sub_cons rfl ?_)
                                  · exact inferInstance
                                  · intro i hi
                                    refine x_seq (x_seq (x_region (s_val rfl (v_move rfl) (s_val rfl (v_move rfl) (s_val rfl (v_len_slice Tryz.underlying50 rfl) (s_val rfl (v_lss rfl rfl) (s_val rfl (v_move rfl) ?_)))))))
                                    refine s_and rfl rfl rfl ?_ ?_
                                    · intro g34_5
                                      refine s_val rfl (v_move rfl) (s_yes rfl rfl (s_val rfl (v_move rfl) (s_yes rfl rfl (s_val rfl (v_len_slice Tryz.underlying50 rfl) (s_yes rfl rfl (s_val rfl (v_lss rfl rfl) (s_val rfl (v_pick_t rfl rfl) (x_nil (n_then ?_)))))))))
                                      refine x_if rfl ?_ ?_
                                      · intro c34
                                        refine x_skip (n_then (x_seq (x_block (x_seq ?_))))
                                        have hi1 : i < L.length := by omega
                                        have hne : strs L ≠ [] := by
                                          intro h0
                                          have := strs_len L
                                          rw [h0] at this; simp at this; omega
                                        refine run_form (E := 9) (sz := 1) (a := ao) (c := ko) (n := L.length) (ys := strs L) (fun hf1 => ?_)
                                        obtain ⟨g1, rfl⟩ := form_some hf1 hne
                                        refine run_form (E := 9) (sz := 1) (a := at_) (c := kt) (n := L.length) (ys := strs L) (fun hf2 => ?_)
                                        obtain ⟨g2, rfl⟩ := form_some hf2 hne
                                        have hLi : (strs L)[i * 1]? = some (sV L[i]) := by rw [Nat.mul_one]; simp [strs, hi1]
                                        refine x_draw [(g1, 0, strs L), (g2, 0, strs L)] 9 mixed rfl (sc_cons (cells_osl (E := 9) (sz := 1) (a := some ⟨g1, 0, none⟩) (n := L.length) (c := ko)) (sc_cons (cells_osl (E := 9) (sz := 1) (a := some ⟨g2, 0, none⟩) (n := L.length) (c := kt)) sc_end)) (fun hS => ?_)
                                        refine d_take 0 rfl rfl (by kernel_rfl) (by kernel_rfl) (by kernel_rfl) rfl hS (v_move rfl) ?_
                                        refine d_take 1 rfl rfl (by kernel_rfl) (by kernel_rfl) (by kernel_rfl) rfl hS (v_move rfl) ?_
                                        refine d_take 2 rfl rfl (by kernel_rfl) (by kernel_rfl) (by kernel_rfl) rfl hS (v_idx Tryz.underlying50 Tryz.sizeOf9 rfl rfl rfl hi1 (by first | exact Nat.zero_add _ | rfl)) ?_
                                        refine d_take 3 rfl rfl (by kernel_rfl) (by kernel_rfl) (by kernel_rfl) rfl hS (v_load Tryz.isAgg9 rfl (cell_sc0 (k := 0) rfl hLi)) ?_
                                        refine d_take 4 rfl rfl (by kernel_rfl) (by kernel_rfl) (by kernel_rfl) rfl hS (v_move rfl) ?_
                                        refine d_take 5 rfl rfl (by kernel_rfl) (by kernel_rfl) (by kernel_rfl) rfl hS (v_move rfl) ?_
                                        refine d_take 6 rfl rfl (by kernel_rfl) (by kernel_rfl) (by kernel_rfl) rfl hS (v_idx Tryz.underlying50 Tryz.sizeOf9 rfl rfl rfl hi1 (by first | exact Nat.zero_add _ | rfl)) ?_
                                        refine d_take 7 rfl rfl (by kernel_rfl) (by kernel_rfl) (by kernel_rfl) rfl hS (v_load Tryz.isAgg9 rfl (cell_sc0 (k := 1) rfl hLi)) ?_
                                        refine d_take 8 rfl rfl (by kernel_rfl) (by kernel_rfl) (by kernel_rfl) rfl hS (v_neq_str rfl rfl) ?_
                                        refine d_done (by kernel_rfl) ?_; clear hS
                                        refine n_then ?_
                                        refine x_if rfl ?_ ?_
                                        · intro c36
                                          exact absurd (by simp) c36
                                        · intro c36
                                          refine x_skip (n_block (n_then (x_region (s_val rfl (v_move rfl) ?_))))
                                          refine s_val rfl (v_add rfl rfl (by first | exact w64 (by omega) | rfl)) ?_
                                          refine s_val rfl (v_assign rfl) (x_nil (n_then ?_))
                                          refine inv_intro (i + 1) ?_ ?_ ?_ ?_
                                          · omega
                                          · omega
                                          · repeat (first | exact sub_nil | refine sub_cons rfl ?_)
                                          · exact inferInstance
                                      · intro c34
                                        refine x_exit (e_then (e_then (e_block (n_block (n_then ?_)))))
                                        refine run_perm (perm2 (r1 := osl 9 1) (b1 := .slice at_ L.length kt) (r2 := kH) (b2 := 4)) (run_ent (hcl _) ?_)
                                        refine x_region (s_val rfl (v_move rfl) ?_)
                                        refine s_val rfl (v_add rfl rfl (by first | exact w64 (by omega) | rfl)) ?_
                                        refine s_val rfl (v_assign rfl) (x_nil (n_then ?_))
                                        refine inv_intro (j + 1) ?_ ?_ ?_ ?_
                                        · omega
                                        · omega
                                        · repeat (first | exact sub_nil | refine sub_cons rfl ?_)
                                        · exact inferInstance
                                    · intro g34_5
                                      refine s_no rfl rfl rfl rfl (s_no rfl rfl rfl rfl (s_no rfl rfl rfl rfl (s_val rfl (v_pick_f rfl rfl) (x_nil (n_then (x_iff rfl (x_exit (e_then (e_then (e_block (n_block (n_then ?_))))))))))))
                                      refine run_perm (perm2 (r1 := osl 9 1) (b1 := .slice at_ L.length kt) (r2 := kH) (b2 := 4)) (run_ent (hcl _) ?_)
                                      refine x_region (s_val rfl (v_move rfl) ?_)
                                      refine s_val rfl (v_add rfl rfl (by first | exact w64 (by omega) | rfl)) ?_
                                      refine s_val rfl (v_assign rfl) (x_nil (n_then ?_))
                                      refine inv_intro (j + 1) ?_ ?_ ?_ ?_
                                      · omega
                                      · omega
                                      · repeat (first | exact sub_nil | refine sub_cons rfl ?_)
                                      · exact inferInstance
                            · intro c27
                              refine x_exit (e_then (e_then (e_block (n_then (x_seq (x_region (s_val rfl (v_move rfl) (s_val rfl (v_move rfl) (s_val rfl (v_len_slice Tryz.underlying45 rfl) (s_val rfl (v_lss rfl rfl) (x_nil (n_then ?_))))))))))))
                              refine x_if rfl ?_ ?_
                              · intro c38
                                refine x_seq ?_
                                have hk2 : k < ags.length := by omega
                                obtain ⟨gg, og, rfl, hcg⟩ := (sla_base (A := []) hag).at_ hk2
                                have hgw := hab _ (List.getElem_mem hk2)
                                generalize ags[k] = gw at hcg hgw
                                refine x_region (s_val rfl (v_move rfl) (s_val rfl (v_move rfl) (s_val rfl (v_move rfl) ?_)))
                                refine s_val rfl (v_idx Tryz.underlying45 Tryz.sizeOf47 rfl rfl rfl hk2 (by first | exact Nat.zero_add _ | rfl)) ?_
                                refine s_val rfl (v_load Tryz.isAgg47 rfl (Cells.weak hcg 0 _ rfl)) ?_
                                refine s_do rfl (d_call3 Tryz.call41 rfl (viSave_spec W0 _ pv ps pm dg fg (pg23 8) hP hG hGd 128 (by decide) 4 gw hgw)) ?_
                                rintro _ B_ ⟨rfl, hB_⟩
                                obtain rfl := hB_.symm
                                refine x_nil (n_then (x_region (s_val rfl (v_move rfl) (s_val rfl (v_move rfl) (s_val rfl (v_move rfl) ?_)))))
                                refine s_val rfl (v_idx Tryz.underlying45 Tryz.sizeOf47 rfl rfl rfl hk2 (by first | exact Nat.zero_add _ | rfl)) ?_
                                refine s_val rfl (v_load Tryz.isAgg47 rfl (Cells.weak hcg 0 _ rfl)) ?_
                                refine s_do rfl (d_call3 Tryz.call42 rfl (rvSave_spec W0 _ qv qs qm dg fg (pg23 8) hP hG 128 (by decide) 4 gw hgw)) ?_
                                rintro _ B_ ⟨rfl, hB_⟩
                                obtain rfl := hB_.symm
                                refine x_nil (n_block (n_then ?_))
                                refine mid_intro ⟨vsvF fg (pg23 8) 128 4 gw, vsvD fg (pg23 8) 128 4 dg, sg, pz, 0, 0, 0, 0⟩ ?_ ?_ ?_
                                · exact ⟨⟨(vsvF_ok hG).1, (vsvF_ok hG).2.trans hGl, vsvD_lt hGd, hGs, hGr, hGp⟩, hyl⟩
                                · repeat (first | exact sub_nil | refine sub_cons rfl ?_)
                                · exact inferInstance
                              · intro c38
                                refine x_skip (n_block (n_then ?_))
                                refine mid_intro ⟨fg, dg, sg, pz, 0, 0, 0, 0⟩ ?_ ?_ ?_
                                · exact ⟨⟨hG, hGl, hGd, hGs, hGr, hGp⟩, hyl⟩
                                · repeat (first | exact sub_nil | refine sub_cons rfl ?_)
                                · exact inferInstance
                  · intro z ⟨hz, hzl⟩
                    refine x_region (s_val rfl (v_move rfl) ?_)
                    refine s_val rfl (v_add rfl rfl (by first | exact w64 (by omega) | rfl)) ?_
                    refine s_val rfl (v_assign rfl) (x_nil (n_then ?_))
                    refine inv_intro (k + 1, z) ?_ ?_ ?_ ?_
                    · exact ⟨by omega, hz, hzl⟩
                    · omega
                    · repeat (first | exact sub_nil | refine sub_cons rfl ?_)
                    · exact inferInstance
                · intro c16
                  refine x_exit (e_then (e_then (e_block (n_then (x_seq (x_region (s_do rfl (d_call Tryz.call27 rfl (awake27_spec W0 _)) ?_)))))))
                  rintro _ B_ ⟨rfl, hB_⟩
                  obtain rfl := hB_.symm
                  refine s_val rfl (v_assign rfl) (x_nil (n_then (x_ret (x_done (.inl rfl) (.cons (r_tmp rfl) .nil) ?_))))
                  exact ⟨_, ⟨rfl, rfl⟩, inferInstance⟩
              · intro g16_5
                refine s_no rfl rfl rfl rfl (s_val rfl (v_pick_f rfl rfl) (x_nil (n_then (x_iff rfl (x_exit (e_then (e_then (e_block (n_then (x_seq (x_region (s_do rfl (d_call Tryz.call27 rfl (awake27_spec W0 _)) ?_))))))))))))
                rintro _ B_ ⟨rfl, hB_⟩
                obtain rfl := hB_.symm
                refine s_val rfl (v_assign rfl) (x_nil (n_then (x_ret (x_done (.inl rfl) (.cons (r_tmp rfl) .nil) ?_))))
                exact ⟨_, ⟨rfl, rfl⟩, inferInstance⟩
end Go.Proofs.YtlnmofhehcilhaaGreat
namespace Go.Proofs.YtlnmofhehcilhaaGreat
open Go.ChangeShapes Go.WideShapes Go.ChangeAt Go.RowKit
set_option linter.unusedSimpArgs false
set_option linter.unusedVariables false
theorem own : ownKnob Tryz.prog.godebug = none := by kernel_rfl
theorem laidOut : laidOutB Tryz.prog = true := by kernel_rfl
variable {W : World} {v : Value}
theorem wf_u32 {n : Int} (h : (Lit.int .u32 n).wf = true) : ∃ w : Nat, n = (w : Int) ∧ w < 4294967296 := by
  simp [Lit.wf, IntKind.min, IntKind.max, IntKind.signed, IntKind.bits] at h
  exact ⟨n.toNat, by omega, by omega⟩
theorem wf_u8 {n : Int} (h : (Lit.int .u8 n).wf = true) : ∃ w : Nat, n = (w : Int) ∧ w < 256 := by
  simp [Lit.wf, IntKind.min, IntKind.max, IntKind.signed, IntKind.bits] at h
  exact ⟨n.toNat, by omega, by omega⟩
end Go.Proofs.YtlnmofhehcilhaaGreat
namespace Go.Proofs.YtlnmofhehcilhaaGreat
open Go.ChangeShapes Go.WideShapes Go.ChangeAt Go.RowKit
set_option linter.unusedSimpArgs false
set_option linter.unusedVariables false
variable {W : World} {v : Value}
theorem inT_byteB {fuel : Nat} {l : List Value} (h : InT Tryz.prog W fuel 5 l) : ∃ x : Nat, l = [bV x] ∧ x < 256 := by
  obtain ⟨n, rfl, hw⟩ := inT_int Tryz.underlying5 h
  obtain ⟨w, rfl, h'⟩ := wf_u8 hw
  exact ⟨w, rfl, h'⟩
theorem inT_bytesB {fuel : Nat} {l : List Value} (h : InT Tryz.prog W fuel 44 l) : ∃ a c xs, l = [.slice a (List.length (α := Nat) xs) c] ∧ xs.length < 9223372036854775808 ∧ SlB W a 1 (fun x => [bV x]) xs ∧ By xs := by
  obtain ⟨a, c, xs, rfl, h1, h2, h3, h4⟩ := inT_sliceF (f := fun x => [bV x]) (Q := fun x => x < 256) 1 Tryz.underlying44 (by kernel_rfl) (by decide) (fun fuel r h => inT_byteB h) h
  exact ⟨a, c, xs, rfl, by simp only [maxLen] at h2; omega, h3, h4⟩
theorem ty_bytesB (h : Ty Tryz.prog W 44 v) : ∃ a c xs, v = .slice a (List.length (α := Nat) xs) c ∧ xs.length < 9223372036854775808 ∧ xs.length ≤ c ∧ SlB W a 1 (fun x => [bV x]) xs ∧ By xs := by
  obtain ⟨a, c, xs, rfl, h1, h2, h3, h4⟩ := ty_sliceF (f := fun x => [bV x]) (Q := fun x => x < 256) 1 Tryz.underlying44 (by kernel_rfl) (by decide) (fun fuel r h => inT_byteB h) h
  exact ⟨a, c, xs, rfl, by simp only [maxLen] at h2; omega, h1, h3, h4⟩
theorem wf_i64 {n : Int} (h : (Lit.int .i64 n).wf = true) : -9223372036854775808 ≤ n ∧ n < 9223372036854775808 := by
  simp [Lit.wf, IntKind.min, IntKind.max, IntKind.signed, IntKind.bits] at h
  omega
theorem ty_i64 (h : Ty Tryz.prog W 3 v) : ∃ n : Int, v = .int .i64 n ∧ -9223372036854775808 ≤ n ∧ n < 9223372036854775808 := by
  obtain ⟨n, rfl, hw⟩ := ty_int Tryz.underlying3 h
  exact ⟨n, rfl, wf_i64 hw⟩
end Go.Proofs.YtlnmofhehcilhaaGreat
namespace Go.Proofs.YtlnmofhehcilhaaGreat
open Go.ChangeShapes Go.WideShapes Go.ChangeAt Go.RowKit
set_option linter.unusedSimpArgs false
set_option linter.unusedVariables false
variable {W : World} {v : Value}
theorem list4 {l : List Value} (h : l.length = 4) : ∃ a b c d, l = [a, b, c, d] := by
  match l, h with
  | [a, b, c, d], _ => exact ⟨a, b, c, d, rfl⟩
theorem inT_u32c {fuel : Nat} {l : List Value} (h : InT Tryz.prog W fuel 47 l) : ∃ x : Nat, l = [.int .u32 x] ∧ x < 4294967296 := by
  obtain ⟨n, rfl, hw⟩ := inT_int Tryz.underlying47 h
  obtain ⟨w, rfl, h'⟩ := wf_u32 hw
  exact ⟨w, rfl, h'⟩
theorem inT_desc {fuel : Nat} {l : List Value} (h : InT Tryz.prog W fuel 99 l) : ∃ d : Dsc, l = dsV d ∧ d.ok := by
  obtain ⟨hl, f', hf⟩ := inT_struct Tryz.underlying99 h
  obtain ⟨x0, x1, x2, x3, rfl⟩ := list4 (hl.trans (by kernel_rfl))
  have h0 := hf _ (List.mem_cons_self ..)
  have h1 := hf _ (List.mem_cons_of_mem _ (List.mem_cons_self ..))
  have h2 := hf _ (List.mem_cons_of_mem _ (List.mem_cons_of_mem _ (List.mem_cons_self ..)))
  have h3 := hf _ (List.mem_cons_of_mem _ (List.mem_cons_of_mem _ (List.mem_cons_of_mem _ (List.mem_cons_self ..))))
  rw [show Tryz.prog.cellsOf 47 = 1 by kernel_rfl] at h0 h1 h2 h3
  obtain ⟨y0, e0, g0⟩ := inT_u32c h0
  obtain ⟨y1, e1, g1⟩ := inT_u32c h1
  obtain ⟨y2, e2, g2⟩ := inT_u32c h2
  obtain ⟨y3, e3, g3⟩ := inT_u32c h3
  simp at e0 e1 e2 e3
  exact ⟨⟨y0, y1, y2, y3⟩, by rw [e0, e1, e2, e3], g0, g1, g2, g3⟩
end Go.Proofs.YtlnmofhehcilhaaGreat
namespace Go.Proofs.YtlnmofhehcilhaaGreat
open Go.ChangeShapes Go.WideShapes Go.ChangeAt Go.RowKit
set_option linter.unusedSimpArgs false
set_option linter.unusedVariables false
variable {W : World} {v : Value}
theorem inT_strs {fuel : Nat} {l : List Value} (h : InT Tryz.prog W fuel 9 l) : ∃ s : ByteArray, l = [sV s] ∧ s.size < 9223372036854775808 := by
  obtain ⟨s, rfl, h1⟩ := inT_str Tryz.underlying9 h
  exact ⟨s, rfl, by simp only [maxLen] at h1; omega⟩
theorem ty_strs (h : Ty Tryz.prog W 50 v) : ∃ a c xs, v = .slice a (List.length (α := ByteArray) xs) c ∧ xs.length < 9223372036854775808 ∧ SlB W a 1 (fun s => [sV s]) xs ∧ ∀ s ∈ xs, s.size < 9223372036854775808 := by
  obtain ⟨a, c, xs, rfl, h1, h2, h3, h4⟩ := ty_sliceF (f := fun s => [sV s]) (Q := fun s => s.size < 9223372036854775808) 1 Tryz.underlying50 (by kernel_rfl) (by decide) (fun fuel r h => inT_strs h) h
  exact ⟨a, c, xs, rfl, by simp only [maxLen] at h2; omega, h3, h4⟩
theorem list5n {l : List Value} (h : l.length = 5) : ∃ a b c d e, l = [a, b, c, d, e] := by
  match l, h with
  | [a, b, c, d, e], _ => exact ⟨a, b, c, d, e, rfl⟩
def BtOk (W : World) (y : Bts) : Prop := SlB W y.1 1 (fun x => [bV x]) y.2.2 ∧ By y.2.2 ∧ y.2.2.length < 9223372036854775808
theorem inT_bts {fuel : Nat} {l : List Value} (h : InT Tryz.prog W fuel 44 l) : ∃ y : Bts, l = btV y ∧ BtOk W y := by
  obtain ⟨a, c, xs, rfl, h1, h2, h3⟩ := inT_bytesB h
  exact ⟨(a, c, xs), rfl, h2, h3, h1⟩
theorem ty_guest27 (h : Ty Tryz.prog W 49 v) : ∃ g : Gst, v = .agg (gstV g).toArray ∧ ∀ A, GOk (OwnP W A) g := by
  obtain ⟨l, rfl, fuel, hI⟩ := ty_struct Tryz.underlying49 h
  obtain ⟨hl, f', hf⟩ := inT_struct Tryz.underlying49 hI
  obtain ⟨x0, x1, x2, x3, x4, rfl⟩ := list5n (hl.trans (by kernel_rfl))
  have h0 := hf _ (List.mem_cons_self ..)
  have h1 := hf _ (List.mem_cons_of_mem _ (List.mem_cons_self ..))
  have h2 := hf _ (List.mem_cons_of_mem _ (List.mem_cons_of_mem _ (List.mem_cons_self ..)))
  have h3 := hf _ (List.mem_cons_of_mem _ (List.mem_cons_of_mem _ (List.mem_cons_of_mem _ (List.mem_cons_self ..))))
  have h4 := hf _ (List.mem_cons_of_mem _ (List.mem_cons_of_mem _ (List.mem_cons_of_mem _ (List.mem_cons_of_mem _ (List.mem_cons_self ..)))))
  rw [show Tryz.prog.cellsOf 43 = 1 by kernel_rfl] at h0
  rw [show Tryz.prog.cellsOf 44 = 1 by kernel_rfl] at h1
  rw [show Tryz.prog.cellsOf 45 = 1 by kernel_rfl] at h2
  rw [show Tryz.prog.cellsOf 46 = 1 by kernel_rfl] at h3
  rw [show Tryz.prog.cellsOf 47 = 1 by kernel_rfl] at h4
  obtain ⟨a0, c0, L, e0, p0, q0, r0, s0⟩ := inT_sliceF (f := dsV) (Q := Dsc.ok) 4 Tryz.underlying43 (by kernel_rfl) (by decide) (fun fuel r h => inT_desc h) h0
  obtain ⟨a1, c1, H, e1, q1, r1, s1⟩ := inT_bytesB h1
  obtain ⟨a2, c2, A, e2, p2, q2, r2, s2⟩ := inT_sliceF (f := fun x => [wV x]) (Q := fun x => x < 4294967296) 1 Tryz.underlying45 (by kernel_rfl) (by decide) (fun fuel r h => inT_u32c h) h2
  obtain ⟨a3, c3, B, e3, p3, q3, r3, s3⟩ := inT_sliceF (f := btV) (Q := BtOk W) 1 Tryz.underlying46 (by kernel_rfl) (by decide) (fun fuel r h => inT_bts h) h3
  obtain ⟨w, e4, s4⟩ := inT_u32c h4
  simp at e0 e1 e2 e3 e4
  refine ⟨⟨a0, c0, L, a1, c1, H, a2, c2, A, a3, c3, B, w⟩, by rw [e0, e1, e2, e3, e4], fun R => ⟨sla_base r0, s0, sla_base r1, s1, sla_base r2, s2, sla_base r3, fun y hy => ?_, s4, ?_, q1, ?_, ?_⟩⟩
  · obtain ⟨k1, k2, k3⟩ := s3 y hy
    exact ⟨sla_base k1, k2, k3⟩
  · simp only [maxLen] at q0; show L.length < _; omega
  · simp only [maxLen] at q2; show A.length < _; omega
  · simp only [maxLen] at q3; show B.length < _; omega
end Go.Proofs.YtlnmofhehcilhaaGreat
namespace Go.Proofs.YtlnmofhehcilhaaGreat
open Go.ChangeShapes Go.WideShapes Go.ChangeAt Go.RowKit
set_option linter.unusedSimpArgs false
set_option linter.unusedVariables false
variable {W : World} {v : Value}
theorem list2n {l : List Value} (h : l.length = 2) : ∃ a b, l = [a, b] := by
  match l, h with
  | [a, b], _ => exact ⟨a, b, rfl⟩
theorem inT_port26 {fuel : Nat} {l : List Value} (h : InT Tryz.prog W fuel 125 l) : ∃ x : Pt2, l = ptV2 x ∧ True := by
  obtain ⟨hl, f', hf⟩ := inT_struct Tryz.underlying125 h
  obtain ⟨x0, x1, rfl⟩ := list2n (hl.trans (by kernel_rfl))
  have h0 := hf _ (List.mem_cons_self ..)
  have h1 := hf _ (List.mem_cons_of_mem _ (List.mem_cons_self ..))
  rw [show Tryz.prog.cellsOf 3 = 1 by kernel_rfl] at h0 h1
  obtain ⟨y0, e0, _⟩ := inT_int Tryz.underlying3 h0
  obtain ⟨y1, e1, _⟩ := inT_int Tryz.underlying3 h1
  simp at e0 e1
  exact ⟨(y0, y1), by rw [e0, e1], trivial⟩
theorem ty_ports26 (h : Ty Tryz.prog W 24 v) : ∃ a c xs, v = .slice a (List.length (α := Pt2) xs) c ∧ xs.length < 9223372036854775808 ∧ SlB W a 2 ptV2 xs := by
  obtain ⟨a, c, xs, rfl, h1, h2, h3, _⟩ := ty_sliceF (f := ptV2) (Q := fun _ => True) 2 Tryz.underlying24 (by kernel_rfl) (by decide) (fun fuel r h => inT_port26 h) h
  exact ⟨a, c, xs, rfl, by simp only [maxLen] at h2; omega, h3⟩
theorem ty_u32n (h : Ty Tryz.prog W 45 v) : ∃ a c xs, v = .slice a (List.length (α := Nat) xs) c ∧ xs.length < 9223372036854775808 ∧ SlB W a 1 (fun x => [wV x]) xs ∧ ∀ x ∈ xs, x < 4294967296 := by
  obtain ⟨a, c, xs, rfl, h1, h2, h3, h4⟩ := ty_sliceF (f := fun x => [wV x]) (Q := fun x => x < 4294967296) 1 Tryz.underlying45 (by kernel_rfl) (by decide) (fun fuel r h => inT_u32c h) h
  exact ⟨a, c, xs, rfl, by simp only [maxLen] at h2; omega, h3, h4⟩
end Go.Proofs.YtlnmofhehcilhaaGreat
