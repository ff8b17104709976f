/-
  Layer 22 (chain): the reference's Scatter.
-/
import Derived.Test.YtpmacnfjafpdcabChainMv
namespace Go.Proofs.Ytpmacnfjafpdcab
open Go.RowKit
set_option linter.unusedSimpArgs false
set_option linter.unusedVariables false
set_option maxRecDepth 20000

/-- One byte more. -/
theorem wr_one {fr : List Frm} {pg : List Pl} {pa : Nat} {bs : List Nat} {j : Nat} (hj : j < bs.length) (ho : ownB fr.length pg pa bs.length = true) : wrF (wrK fr pg pa bs j) pg (pa + j) [bs[j]] = wrK fr pg pa bs (j + 1) := by
  obtain ⟨h1, h2⟩ := ownB_nat.1 ho
  have hl : (wrK fr pg pa bs j).length = fr.length := by
    clear hj
    induction j with
    | zero => rfl
    | succ j ih => rw [wrK, svF_len, ih]
  have hg : bs.getD j 0 = bs[j] := by simp [List.getD, hj]
  have h3 : ownB (wrK fr pg pa bs j).length pg (pa + j) ([bs[j]].length : Nat) = true := by
    rw [hl, ownB_nat]
    exact ⟨by simp; omega, fun i hi => by rw [show pa + j + i = pa + j by simp at hi; omega]; exact h2 j hj⟩
  rw [wrF, if_pos h3]
  simp only [List.length_cons, List.length_nil, Nat.zero_add, wrK, Nat.add_zero, hg, List.getD_cons_zero]
theorem wr_oneD {fr : List Frm} {pg : List Pl} {pa d n j : Nat} {bs : List Nat} (hj : j < n) (ho : ownB fr.length pg pa n = true) : wrE (wrK fr pg pa bs j) pg (pa + j) (wrD d pa j) 1 = wrD d pa (j + 1) := by
  obtain ⟨h1, h2⟩ := ownB_nat.1 ho
  have hl : (wrK fr pg pa bs j).length = fr.length := by
    clear hj
    induction j with
    | zero => rfl
    | succ j ih => rw [wrK, svF_len, ih]
  have h3 : ownB (wrK fr pg pa bs j).length pg (pa + j) (1 : Nat) = true := by
    rw [hl, ownB_nat]
    exact ⟨by omega, fun i hi => by rw [show pa + j + i = pa + j by omega]; exact h2 j hj⟩
  rw [wrE, if_pos h3]
  simp only [wrD, Nat.add_zero]
theorem own_sub {len : Nat} {pg : List Pl} {pa n i k : Nat} (ho : ownB len pg pa n = true) (hk : i + k ≤ n) : ownB len pg (pa + i) k = true := by
  obtain ⟨h1, h2⟩ := ownB_nat.1 ho
  rw [ownB_nat]
  exact ⟨by omega, fun j hj => by rw [show pa + i + j = pa + (i + j) by omega]; exact h2 (i + j) (by omega)⟩
theorem drop_get {bs : List Nat} {dn k j : Nat} (h : j < ((bs.drop dn).take k).length) : ((bs.drop dn).take k)[j] = bs[dn + j]'(by rw [List.length_take, List.length_drop] at h; omega) := by
  simp [List.getElem_take, List.getElem_drop]
/-- What the reference's count of what to skip is. -/
def skV (from_ : Int) (sk : Nat) : Int := if from_ < 0 then from_ else sk
theorem rcScatter_spec (W0 : World) (R : List HP) (qv qs qm d c cb : Nat) (a ab : Option Addr) (fr : List Frm) (pg : List Pl) (h : Pgs pg) (hF : Frs fr) (hd : d < 4096) (l : List Dsc) (hs : SlA (OwnP W0 R) a 4 dsV l) (hl : ∀ x ∈ l, x.ok) (hn : l.length ≤ 1000) (from_ : Int) (hf : -9223372036854775808 ≤ from_ ∧ from_ < 9223372036854775808)
    (bs : List Nat) (hb : By bs) (hsb : SlA (OwnP W0 R) ab 1 (fun x => [bV x]) bs) (hbl : bs.length < 9223372036854775808) :
    Spec Try.prog W0 19 [.pointer (some ⟨qv, 0, none⟩), .slice a l.length c, .int .i64 from_, .slice ab bs.length cb] (pt qv (rvO qs qm d) :: rstoH qs fr :: pt qm (rgO pg) :: R)
      (fun v B => v = .int .i64 ((scK fr pg d l from_ bs l.length).2.1 : Nat) ∧ B = pt qv (rvO qs qm (scK fr pg d l from_ bs l.length).2.2.2) :: rstoH qs (scK fr pg d l from_ bs l.length).2.2.1 :: pt qm (rgO pg) :: R) := by
  refine spec_body Try.func19 Try.ntmps19 rfl rfl ?_
  refine x_seq ?_
  refine x_region ?_
  refine s_val rfl (v_assign rfl) ?_
  refine x_nil ?_
  refine n_then ?_
  refine x_seq ?_
  refine x_region ?_
  refine s_val rfl (v_move rfl) ?_
  refine s_val rfl (v_assign rfl) ?_
  refine x_nil ?_
  refine n_then ?_
  refine x_seq ?_
  refine x_region ?_
  refine s_val rfl (v_assign rfl) ?_
  refine x_nil ?_
  refine n_then ?_
  refine x_seq ?_
  refine x_seq ?_
  refine x_region ?_
  refine s_val rfl (v_assign rfl) ?_
  refine x_nil ?_
  refine n_then ?_
  refine x_block ?_
  refine x_loop (fun X : Nat × Int => X.1 ≤ l.length ∧ ((scK fr pg d l from_ bs X.1).2.1 = bs.length ∨ X.2 = skV from_ (scK fr pg d l from_ bs X.1).1)) (fun X => [(0, .pointer (some ⟨qv, 0, none⟩)), (1, .slice a l.length c), (3, .slice ab bs.length cb), (9, .int .i64 X.2), (10, .int .i64 ((scK fr pg d l from_ bs X.1).2.1 : Nat)), (11, .int .i64 X.1)]) (fun X => pt qv (rvO qs qm (scK fr pg d l from_ bs X.1).2.2.2) :: rstoH qs (scK fr pg d l from_ bs X.1).2.2.1 :: pt qm (rgO pg) :: R) (fun X => l.length - X.1) (0, from_) ?_ ?_ ?_ ?_
  · refine ⟨Nat.zero_le _, .inr ?_⟩
    simp only [skV, scK]; split <;> omega
  · repeat (first | exact sub_nil | refine sub_cons rfl ?_)
  · simp only [scK]; exact inferInstance
  · intro ⟨i, rs⟩ ⟨hi, hrs⟩
    have hok := scK_ok (pg := pg) (l := l) (from_ := from_) (bs := bs) hF hd i
    have hSS : scK fr pg d l from_ bs (i + 1) = scStep pg bs (l.getD i zD) (scK fr pg d l from_ bs i) := rfl
    have hend : ∀ hle : i = l.length, scK fr pg d l from_ bs l.length = scK fr pg d l from_ bs i := fun q => by rw [q]
    dsimp only at hi hrs ⊢
    generalize scK fr pg d l from_ bs i = s at hok hSS hend hrs ⊢
    obtain ⟨sk, dn, fi, di⟩ := s
    obtain ⟨hFi, hli, hdi, hdn, hsk⟩ := hok
    dsimp only at hFi hli hdi hdn hsk hrs ⊢
    refine x_seq ?_
    refine x_seq ?_
    refine x_region ?_
    refine s_val rfl (v_move rfl) ?_
    refine s_val rfl (v_move rfl) ?_
    refine s_val rfl (v_len_slice Try.underlying27 rfl) ?_
    refine s_val rfl (v_lss rfl rfl) ?_
    refine x_nil ?_
    refine n_then ?_
    refine x_if rfl ?_ ?_
    · intro c4
      refine x_skip ?_
      refine n_then ?_
      refine x_seq ?_
      refine x_block ?_
      refine x_seq ?_
      refine x_seq ?_
      have hi1 : i < l.length := by omega
      obtain ⟨g, o, rfl, hc⟩ := hs.at_ hi1
      have hx := hl _ (List.getElem_mem hi1)
      have hgd : l.getD i zD = l[i] := by simp [List.getD, hi1]
      rw [hgd] at hSS
      generalize l[i] = x at hc hx hSS
      have ha := hx.addr
      have hle := hx.len
      refine x_draw [(g, o + i * 4, dsV x)] 22 mixed rfl (sc_cons hc.weak sc_end) (fun hS => ?_)
      refine d_take 0 rfl rfl (by kernel_rfl) (by kernel_rfl) (by kernel_rfl) rfl hS (v_move rfl) ?_
      refine d_take 1 rfl rfl (by kernel_rfl) (by kernel_rfl) (by kernel_rfl) rfl hS (v_move rfl) ?_
      refine d_take 2 rfl rfl (by kernel_rfl) (by kernel_rfl) (by kernel_rfl) rfl hS (v_idx Try.underlying27 Try.sizeOf30 rfl rfl rfl hi1 (by first | exact Nat.zero_add _ | rfl)) ?_
      refine d_take 3 rfl rfl (by kernel_rfl) (by kernel_rfl) (by kernel_rfl) rfl hS (v_loadAgg Try.isAgg30 Try.sizeOf30 rfl (cells_sc (k := 0) rfl) rfl) ?_
      refine d_one 4 (by kernel_rfl) rfl rfl (d_call Try.call54 rfl (rcWrites_spec W0 _ x hx)) rfl ?_; clear hS
      rintro _ B_ ⟨rfl, hB_⟩
      obtain rfl := hB_.symm
      refine ⟨(sc_cons hc.weak sc_end), fun hS => ?_⟩
      refine d_take 5 rfl rfl (by kernel_rfl) (by kernel_rfl) (by kernel_rfl) rfl hS (v_not rfl) ?_
      refine d_take 6 rfl rfl (by kernel_rfl) (by kernel_rfl) (by kernel_rfl) rfl hS (v_move rfl) ?_
      refine x_split (t := 26) rfl ?_ ?_
      · intro g6_7
        have hst : scK fr pg d l from_ bs (i + 1) = (sk, dn, fi, di) := by rw [hSS, scStep, if_neg (fun q => g6_7 q.1)]
        obtain ⟨rs', hrs'⟩ : ∃ y, y = rs := ⟨rs, rfl⟩
        have hI' : dn = bs.length ∨ rs' = skV from_ sk := by rw [hrs']; exact hrs
        refine d_skip 7 rfl rfl (by kernel_rfl) (by kernel_rfl) (by kernel_rfl) rfl hS ?_
        refine d_skip 8 rfl rfl (by kernel_rfl) (by kernel_rfl) (by kernel_rfl) rfl hS ?_
        refine d_skip 9 rfl rfl (by kernel_rfl) (by kernel_rfl) (by kernel_rfl) rfl hS ?_
        refine d_skip 10 rfl rfl (by kernel_rfl) (by kernel_rfl) (by kernel_rfl) rfl hS ?_
        refine d_skip 11 rfl rfl (by kernel_rfl) (by kernel_rfl) (by kernel_rfl) rfl hS ?_
        refine d_skip 12 rfl rfl (by kernel_rfl) (by kernel_rfl) (by kernel_rfl) rfl hS ?_
        refine d_skip 13 rfl rfl (by kernel_rfl) (by kernel_rfl) (by kernel_rfl) rfl hS ?_
        refine d_skip 14 rfl rfl (by kernel_rfl) (by kernel_rfl) (by kernel_rfl) rfl hS ?_
        refine d_skip 15 rfl rfl (by kernel_rfl) (by kernel_rfl) (by kernel_rfl) rfl hS ?_
        refine d_skip 16 rfl rfl (by kernel_rfl) (by kernel_rfl) (by kernel_rfl) rfl hS ?_
        refine d_skip 17 rfl rfl (by kernel_rfl) (by kernel_rfl) (by kernel_rfl) rfl hS ?_
        refine d_skip 18 rfl rfl (by kernel_rfl) (by kernel_rfl) (by kernel_rfl) rfl hS ?_
        refine d_skip 19 rfl rfl (by kernel_rfl) (by kernel_rfl) (by kernel_rfl) rfl hS ?_
        refine d_skip 20 rfl rfl (by kernel_rfl) (by kernel_rfl) (by kernel_rfl) rfl hS ?_
        refine d_take 21 rfl rfl (by kernel_rfl) (by kernel_rfl) (by kernel_rfl) rfl hS (v_pick_t rfl rfl) ?_
        refine d_done (by kernel_rfl) ?_; clear hS
        refine n_then ?_
        refine x_ift rfl ?_
        refine x_exit ?_
        refine e_then ?_
        refine e_block ?_
        refine n_then ?_
        refine x_region ?_
        refine s_val rfl (v_move rfl) ?_
        refine s_val rfl (v_add rfl rfl (by first | exact w64 (by omega) | rfl)) ?_
        refine s_val rfl (v_assign rfl) ?_
        refine x_nil ?_
        refine n_then ?_
        refine inv_intro (i + 1, rs') ?_ ?_ ?_ ?_
        · rw [hst]; exact ⟨by omega, hI'⟩
        · omega
        · dsimp only
          rw [hst, hrs']; repeat (first | exact sub_nil | refine sub_cons rfl ?_)
        · dsimp only
          rw [hst]; exact inferInstance
      · intro g6_7
        refine d_take 7 rfl rfl (by kernel_rfl) (by kernel_rfl) (by kernel_rfl) rfl hS (v_move rfl) ?_
        refine d_take 8 rfl rfl (by kernel_rfl) (by kernel_rfl) (by kernel_rfl) rfl hS (v_move rfl) ?_
        refine d_take 9 rfl rfl (by kernel_rfl) (by kernel_rfl) (by kernel_rfl) rfl hS (v_move rfl) ?_
        refine d_take 10 rfl rfl (by kernel_rfl) (by kernel_rfl) (by kernel_rfl) rfl hS (v_idx Try.underlying27 Try.sizeOf30 rfl rfl rfl hi1 (by first | exact Nat.zero_add _ | rfl)) ?_
        refine d_take 11 rfl rfl (by kernel_rfl) (by kernel_rfl) (by kernel_rfl) rfl hS (v_fieldAddr rfl Try.underlying30 rfl Try.sizeOf28 rfl (by first | exact Nat.zero_add _ | rfl)) ?_
        refine d_take 12 rfl rfl (by kernel_rfl) (by kernel_rfl) (by kernel_rfl) rfl hS (v_load Try.isAgg28 rfl (cell_sc (k := 0) (j := 0) rfl rfl)) ?_
        refine d_take 13 rfl rfl (by kernel_rfl) (by kernel_rfl) (by kernel_rfl) rfl hS (v_move rfl) ?_
        refine d_take 14 rfl rfl (by kernel_rfl) (by kernel_rfl) (by kernel_rfl) rfl hS (v_move rfl) ?_
        refine d_take 15 rfl rfl (by kernel_rfl) (by kernel_rfl) (by kernel_rfl) rfl hS (v_idx Try.underlying27 Try.sizeOf30 rfl rfl rfl hi1 (by first | exact Nat.zero_add _ | rfl)) ?_
        refine d_take 16 rfl rfl (by kernel_rfl) (by kernel_rfl) (by kernel_rfl) rfl hS (v_fieldAddr rfl Try.underlying30 rfl Try.sizeOf28 rfl (by first | exact Nat.zero_add _ | rfl)) ?_
        refine d_take 17 rfl rfl (by kernel_rfl) (by kernel_rfl) (by kernel_rfl) rfl hS (v_load Try.isAgg28 rfl (cell_sc (k := 0) (j := 1) rfl rfl)) ?_
        refine d_take 18 rfl rfl (by kernel_rfl) (by kernel_rfl) (by kernel_rfl) rfl hS (v_conv Try.underlying28 Try.underlying3 rfl (w64 (by omega))) ?_
        refine d_one 19 (by kernel_rfl) rfl rfl (d_call3 Try.call56 rfl (rvOwn_spec W0 _ qv qs qm di fi pg h x.addr ha x.len)) rfl ?_; clear hS
        rintro _ B_ ⟨rfl, hB_⟩
        obtain rfl := hB_.symm
        refine ⟨(sc_cons hc.weak sc_end), fun hS => ?_⟩
        refine d_take 20 rfl rfl (by kernel_rfl) (by kernel_rfl) (by kernel_rfl) rfl hS (v_not rfl) ?_
        refine d_take 21 rfl rfl (by kernel_rfl) (by kernel_rfl) (by kernel_rfl) rfl hS (v_pick_f rfl rfl) ?_
        refine d_done (by kernel_rfl) ?_; clear hS
        refine n_then ?_
        refine x_if rfl ?_ ?_
        · intro c6
          have hst : scK fr pg d l from_ bs (i + 1) = (sk, dn, fi, di) := by rw [hSS, scStep, if_neg (fun q => c6 q.2)]
          obtain ⟨rs', hrs'⟩ : ∃ y, y = rs := ⟨rs, rfl⟩
          have hI' : dn = bs.length ∨ rs' = skV from_ sk := by rw [hrs']; exact hrs
          refine x_exit ?_
          refine e_then ?_
          refine e_block ?_
          refine n_then ?_
          refine x_region ?_
          refine s_val rfl (v_move rfl) ?_
          refine s_val rfl (v_add rfl rfl (by first | exact w64 (by omega) | rfl)) ?_
          refine s_val rfl (v_assign rfl) ?_
          refine x_nil ?_
          refine n_then ?_
          refine inv_intro (i + 1, rs') ?_ ?_ ?_ ?_
          · rw [hst]; exact ⟨by omega, hI'⟩
          · omega
          · dsimp only
            rw [hst, hrs']; repeat (first | exact sub_nil | refine sub_cons rfl ?_)
          · dsimp only
            rw [hst]; exact inferInstance
        · intro c6
          have hw : wrB x = true := by simpa using g6_7
          have ho : ownB fi.length pg x.addr x.len = true := by simpa using c6
          have hst : scK fr pg d l from_ bs (i + 1) = (sk - min sk x.len, dn + min (x.len - min sk x.len) (bs.length - dn), wrF fi pg (x.addr + min sk x.len) ((bs.drop dn).take (min (x.len - min sk x.len) (bs.length - dn))), wrE fi pg (x.addr + min sk x.len) di (min (x.len - min sk x.len) (bs.length - dn))) := by rw [hSS, scStep, if_pos ⟨hw, ho⟩]
          have h512 := (ownB_nat.1 ho).1
          obtain ⟨ah, hah⟩ : ∃ y, min sk x.len = y := ⟨_, rfl⟩
          rw [hah] at hst
          obtain ⟨kk, hkk⟩ : ∃ y, min (x.len - ah) (bs.length - dn) = y := ⟨_, rfl⟩
          rw [hkk] at hst
          have hosub : ownB fi.length pg (x.addr + ah) kk = true := own_sub ho (by omega)
          obtain ⟨bk, hbk⟩ : ∃ y, (bs.drop dn).take kk = y := ⟨_, rfl⟩
          have hbkl : bk.length = kk := by rw [← hbk, List.length_take, List.length_drop]; omega
          rw [hbk, wrF, hbkl, if_pos hosub, wrE, if_pos hosub] at hst
          refine x_skip ?_
          refine n_then ?_
          refine x_seq ?_
          refine x_region ?_
          refine s_val rfl (v_assign rfl) ?_
          refine x_nil ?_
          refine n_then ?_
          refine x_block ?_
          refine x_loop (fun Y : Nat × Int × Nat => Y.1 ≤ x.len ∧ Y.2.2 ≤ kk ∧ (dn = bs.length ∨ (Y.2.2 = Y.1 - ah ∧ Y.2.1 = skV from_ (sk - Y.1)))) (fun Y => [(0, .pointer (some ⟨qv, 0, none⟩)), (1, .slice (some ⟨g, o, none⟩) l.length c), (3, .slice ab bs.length cb), (9, .int .i64 Y.2.1), (10, .int .i64 (dn + Y.2.2 : Nat)), (11, .int .i64 i), (12, .int .i64 Y.1)]) (fun Y => pt qv (rvO qs qm (wrD di (x.addr + ah) Y.2.2)) :: rstoH qs (wrK fi pg (x.addr + ah) bk Y.2.2) :: pt qm (rgO pg) :: R) (fun Y => x.len - Y.1) (0, rs, 0) ?_ ?_ ?_ ?_
          · refine ⟨Nat.zero_le _, Nat.zero_le _, ?_⟩
            rcases hrs with q | q
            · exact .inl q
            · exact .inr ⟨by simp, by simpa using q⟩
          · repeat (first | exact sub_nil | refine sub_cons rfl ?_)
          · simp only [wrD, wrK]; exact inferInstance
          · intro ⟨k, rk, j⟩ ⟨hk1, hj1, hkI⟩
            dsimp only at hk1 hj1 hkI ⊢
            refine x_seq ?_
            refine x_seq ?_
            refine x_region ?_
            refine s_val rfl (v_move rfl) ?_
            refine s_val rfl (v_move rfl) ?_
            refine s_val rfl (v_move rfl) ?_
            refine s_val rfl (v_idx Try.underlying27 Try.sizeOf30 rfl rfl rfl hi1 (by first | exact Nat.zero_add _ | rfl)) ?_
            refine s_val rfl (v_fieldAddr rfl Try.underlying30 rfl Try.sizeOf28 rfl (by first | exact Nat.zero_add _ | rfl)) ?_
            refine s_val rfl (v_load Try.isAgg28 rfl (Cells.weak hc 1 _ rfl)) ?_
            refine s_val rfl (v_conv Try.underlying28 Try.underlying3 rfl (w64 (by omega))) ?_
            refine s_val rfl (v_lss rfl rfl) ?_
            refine s_val rfl (v_move rfl) ?_
            refine s_and rfl rfl rfl ?_ ?_
            · intro g8_9
              refine s_val rfl (v_move rfl) ?_
              refine s_yes rfl rfl ?_
              refine s_val rfl (v_move rfl) ?_
              refine s_yes rfl rfl ?_
              refine s_val rfl (v_len_slice Try.underlying22 rfl) ?_
              refine s_yes rfl rfl ?_
              refine s_val rfl (v_lss rfl rfl) ?_
              refine s_val rfl (v_pick_t rfl rfl) ?_
              refine x_nil ?_
              refine n_then ?_
              refine x_if rfl ?_ ?_
              · intro c8
                refine x_skip ?_
                refine n_then ?_
                refine x_seq ?_
                refine x_block ?_
                refine x_seq ?_
                have hklt : k < x.len := by omega
                have hdlt : dn + j < bs.length := by omega
                obtain ⟨hq2, hq3⟩ : j = k - ah ∧ rk = skV from_ (sk - k) := by
                  rcases hkI with q | q
                  · omega
                  · exact q
                have hskb : skV from_ (sk - k) ≤ max from_ 0 ∧ min from_ 0 ≤ skV from_ (sk - k) := by unfold skV; split <;> omega
                refine x_region ?_
                refine s_val rfl (v_move rfl) ?_
                refine s_val rfl (v_gtr rfl rfl) ?_
                refine x_nil ?_
                refine n_then ?_
                refine x_if rfl ?_ ?_
                · intro c10
                  have hska : 0 ≤ from_ ∧ k < sk := by rw [hq3] at c10; unfold skV at c10; split at c10 <;> omega
                  have hnx : rk - 1 = skV from_ (sk - (k + 1)) := by rw [hq3]; unfold skV; rw [if_neg (by omega), if_neg (by omega)]; omega
                  obtain ⟨j', hj'⟩ : ∃ y, y = j := ⟨j, rfl⟩
                  obtain ⟨rk', hrk'⟩ : ∃ y, y = rk - 1 := ⟨_, rfl⟩
                  have hI1 : j' ≤ kk ∧ j' = (k + 1) - ah ∧ rk' = skV from_ (sk - (k + 1)) := ⟨by omega, by omega, by rw [hrk']; exact hnx⟩
                  refine x_region ?_
                  refine s_val rfl (v_move rfl) ?_
                  refine s_val rfl (v_sub rfl rfl (w64 (by omega))) ?_
                  refine s_val rfl (v_assign rfl) ?_
                  refine x_nil ?_
                  refine n_block ?_
                  refine n_then ?_
                  refine x_region ?_
                  refine s_val rfl (v_move rfl) ?_
                  refine s_val rfl (v_add rfl rfl (by first | exact w64 (by omega) | rfl)) ?_
                  refine s_val rfl (v_assign rfl) ?_
                  refine x_nil ?_
                  refine n_then ?_
                  refine inv_intro (k + 1, rk', j') ?_ ?_ ?_ ?_
                  · exact ⟨by omega, hI1.1, .inr ⟨hI1.2.1, hI1.2.2⟩⟩
                  · omega
                  · dsimp only
                    rw [hj', hrk']; repeat (first | exact sub_nil | refine sub_cons rfl ?_)
                  · dsimp only
                    rw [hj']; exact inferInstance
                · intro c10
                  have hska : from_ < 0 ∨ sk ≤ k := by rw [hq3] at c10; unfold skV at c10; split at c10 <;> omega
                  have hsz : from_ < 0 → sk = 0 := fun q => by omega
                  have hjk : j < kk := by omega
                  have hax : x.addr + k = x.addr + ah + j := by omega
                  have hnx : rk = skV from_ (sk - (k + 1)) := by rw [hq3]; unfold skV; split <;> omega
                  obtain ⟨gb, ob, rfl, hcb⟩ := hsb.at_ hdlt
                  have hb8 : bs[dn + j] < 256 := hb.get hdlt
                  have hFk := (wrK_ok (pg := pg) (pa := x.addr + ah) (bs := bk) hFi j).1
                  have hbj : bk[j]'(by omega) = bs[dn + j] := by
                    have : ∀ y (hy : (bs.drop dn).take kk = y) (hj : j < y.length), y[j] = bs[dn + j] := by
                      intro y hy hj; subst hy; exact drop_get hj
                    exact this bk hbk (by omega)
                  have hw1 := wr_one (fr := fi) (pg := pg) (pa := x.addr + ah) (bs := bk) (j := j) (by omega) (by rw [hbkl]; exact hosub)
                  have hw2 := wr_oneD (fr := fi) (pg := pg) (pa := x.addr + ah) (d := di) (n := kk) (j := j) (bs := bk) hjk hosub
                  rw [hbj] at hw1
                  obtain ⟨j', hj'⟩ : ∃ y, y = j + 1 := ⟨_, rfl⟩
                  obtain ⟨rk', hrk'⟩ : ∃ y, y = rk := ⟨_, rfl⟩
                  have hI1 : j' ≤ kk ∧ j' = (k + 1) - ah ∧ rk' = skV from_ (sk - (k + 1)) := ⟨by omega, by omega, by rw [hrk']; exact hnx⟩
                  refine x_seq ?_
                  refine x_draw [(g, o + i * 4, dsV x), (gb, ob + (dn + j) * 1, [bV bs[dn + j]])] 15 mixed rfl (sc_cons hc.weak (sc_cons hcb.weak sc_end)) (fun hS => ?_)
                  refine d_take 0 rfl rfl (by kernel_rfl) (by kernel_rfl) (by kernel_rfl) rfl hS (v_move rfl) ?_
                  refine d_take 1 rfl rfl (by kernel_rfl) (by kernel_rfl) (by kernel_rfl) rfl hS (v_move rfl) ?_
                  refine d_take 2 rfl rfl (by kernel_rfl) (by kernel_rfl) (by kernel_rfl) rfl hS (v_move rfl) ?_
                  refine d_take 3 rfl rfl (by kernel_rfl) (by kernel_rfl) (by kernel_rfl) rfl hS (v_idx Try.underlying27 Try.sizeOf30 rfl rfl rfl hi1 (by first | exact Nat.zero_add _ | rfl)) ?_
                  refine d_take 4 rfl rfl (by kernel_rfl) (by kernel_rfl) (by kernel_rfl) rfl hS (v_fieldAddr rfl Try.underlying30 rfl Try.sizeOf28 rfl (by first | exact Nat.zero_add _ | rfl)) ?_
                  refine d_take 5 rfl rfl (by kernel_rfl) (by kernel_rfl) (by kernel_rfl) rfl hS (v_load Try.isAgg28 rfl (cell_sc (k := 0) (j := 0) rfl rfl)) ?_
                  refine d_take 6 rfl rfl (by kernel_rfl) (by kernel_rfl) (by kernel_rfl) rfl hS (v_move rfl) ?_
                  refine d_take 7 rfl rfl (by kernel_rfl) (by kernel_rfl) (by kernel_rfl) rfl hS (v_conv Try.underlying3 Try.underlying28 rfl (w32u (by omega))) ?_
                  refine d_take 8 rfl rfl (by kernel_rfl) (by kernel_rfl) (by kernel_rfl) rfl hS (v_add rfl rfl (by rw [w32u (by omega)]; omega : IntKind.wrap .u32 ((x.addr : Int) + (k : Int)) = ((x.addr + ah + j : Nat) : Int))) ?_
                  refine d_take 9 rfl rfl (by kernel_rfl) (by kernel_rfl) (by kernel_rfl) rfl hS (v_move rfl) ?_
                  refine d_take 10 rfl rfl (by kernel_rfl) (by kernel_rfl) (by kernel_rfl) rfl hS (v_move rfl) ?_
                  refine d_take 11 rfl rfl (by kernel_rfl) (by kernel_rfl) (by kernel_rfl) rfl hS (v_idx Try.underlying22 Try.sizeOf5 rfl rfl rfl hdlt (by first | exact Nat.zero_add _ | rfl)) ?_
                  refine d_take 12 rfl rfl (by kernel_rfl) (by kernel_rfl) (by kernel_rfl) rfl hS (v_load Try.isAgg5 rfl (cell_sc1 (k := 1) rfl)) ?_
                  refine d_one 13 (by kernel_rfl) rfl rfl (d_sliceLit Try.underlying22 Try.sizeOf5 Try.zeroValue5 rfl rfl rfl rfl rfl (by decide) (by decide)) rfl ?_; clear hS
                  rintro _ _ ⟨b1, rfl, rfl⟩
                  refine ⟨(sc_cons hc.weak (sc_cons hcb.weak sc_end)), fun hS => ?_⟩
                  refine d_one 14 (by kernel_rfl) rfl rfl (d_call3 Try.call30 rfl (rvWriteN_spec W0 _ qv qs qm _ _ 1 _ _ pg h hFk (x.addr + ah + j) (by omega) [bs[dn + j]] rfl (fun b hb => by have := List.mem_singleton.1 hb; omega) (sla_pt (fun _ => rfl) rfl) (by decide))) rfl ?_; clear hS
                  rintro _ B_ ⟨rfl, hB_⟩
                  obtain rfl := hB_.symm
                  rw [hw1, hw2]
                  refine ⟨(sc_cons hc.weak (sc_cons hcb.weak sc_end)), fun hS => ?_⟩
                  refine d_done (by kernel_rfl) ?_; clear hS
                  refine n_then ?_
                  refine x_region ?_
                  refine s_val rfl (v_move rfl) ?_
                  refine s_val rfl (v_add rfl rfl (by rw [w64 (by omega)]; omega : IntKind.wrap .i64 (((dn + j : Nat) : Int) + 1) = ((dn + (j + 1) : Nat) : Int))) ?_
                  refine s_val rfl (v_assign rfl) ?_
                  refine x_nil ?_
                  refine n_block ?_
                  refine n_then ?_
                  refine x_region ?_
                  refine s_val rfl (v_move rfl) ?_
                  refine s_val rfl (v_add rfl rfl (by first | exact w64 (by omega) | rfl)) ?_
                  refine s_val rfl (v_assign rfl) ?_
                  refine x_nil ?_
                  refine n_then ?_
                  refine inv_intro (k + 1, rk', j') ?_ ?_ ?_ ?_
                  · exact ⟨by omega, hI1.1, .inr ⟨hI1.2.1, hI1.2.2⟩⟩
                  · omega
                  · dsimp only
                    rw [hj', hrk']; repeat (first | exact sub_nil | refine sub_cons rfl ?_)
                  · dsimp only
                    rw [hj']; exact inferInstance
              · intro c8
                have hjkk : j = kk := by rcases hkI with q | q <;> omega
                rw [← hjkk] at hst
                obtain ⟨rs', hrs'⟩ : ∃ y, y = rk := ⟨_, rfl⟩
                have hI' : dn + j = bs.length ∨ rs' = skV from_ (sk - ah) := by
                  rw [hrs']
                  left; omega
                refine x_exit ?_
                refine e_then ?_
                refine e_then ?_
                refine e_block ?_
                refine n_block ?_
                refine n_then ?_
                refine x_region ?_
                refine s_val rfl (v_move rfl) ?_
                refine s_val rfl (v_add rfl rfl (by first | exact w64 (by omega) | rfl)) ?_
                refine s_val rfl (v_assign rfl) ?_
                refine x_nil ?_
                refine n_then ?_
                refine inv_intro (i + 1, rs') ?_ ?_ ?_ ?_
                · rw [hst]; exact ⟨by omega, hI'⟩
                · omega
                · dsimp only
                  rw [hst, hrs']; repeat (first | exact sub_nil | refine sub_cons rfl ?_)
                · dsimp only
                  rw [hst]; exact inferInstance
            · intro g8_9
              have hjkk : j = kk := by rcases hkI with q | q <;> omega
              rw [← hjkk] at hst
              obtain ⟨rs', hrs'⟩ : ∃ y, y = rk := ⟨_, rfl⟩
              have hI' : dn + j = bs.length ∨ rs' = skV from_ (sk - ah) := by
                rw [hrs']
                rcases hkI with q | q
                · left; omega
                · right; rw [q.2]; congr 1; omega
              refine s_no rfl rfl rfl rfl ?_
              refine s_no rfl rfl rfl rfl ?_
              refine s_no rfl rfl rfl rfl ?_
              refine s_val rfl (v_pick_f rfl rfl) ?_
              refine x_nil ?_
              refine n_then ?_
              refine x_iff rfl ?_
              refine x_exit ?_
              refine e_then ?_
              refine e_then ?_
              refine e_block ?_
              refine n_block ?_
              refine n_then ?_
              refine x_region ?_
              refine s_val rfl (v_move rfl) ?_
              refine s_val rfl (v_add rfl rfl (by first | exact w64 (by omega) | rfl)) ?_
              refine s_val rfl (v_assign rfl) ?_
              refine x_nil ?_
              refine n_then ?_
              refine inv_intro (i + 1, rs') ?_ ?_ ?_ ?_
              · rw [hst]; exact ⟨by omega, hI'⟩
              · omega
              · dsimp only
                rw [hst, hrs']; repeat (first | exact sub_nil | refine sub_cons rfl ?_)
              · dsimp only
                rw [hst]; exact inferInstance
    · intro c4
      refine x_exit ?_
      refine e_then ?_
      refine e_then ?_
      refine e_block ?_
      refine n_then ?_
      refine x_seq ?_
      refine x_region ?_
      refine s_val rfl (v_move rfl) ?_
      refine s_val rfl (v_assign rfl) ?_
      refine x_nil ?_
      refine n_then ?_
      refine x_ret ?_
      refine x_done (.inl rfl) (.cons (r_tmp rfl) .nil) ?_
      have e1 := hend (by omega)
      rw [e1]
      exact ⟨_, ⟨rfl, rfl⟩, inferInstance⟩
end Go.Proofs.Ytpmacnfjafpdcab
