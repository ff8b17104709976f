/-
  Layer 16 (view): the walk of ViewPlays.
-/
import Derived.Test.YtpmacnfjafpdcaaViewLawB
namespace Go.Proofs.Ytpmacnfjafpdcaa
open Go.RowKit
set_option linter.unusedSimpArgs false
set_option linter.unusedVariables false
set_option maxRecDepth 20000

theorem inVs_flat : ∀ l : List Nat, inVs l = l.flatMap (fun n => [inV n])
  | [] => rfl
  | b :: l => by rw [List.flatMap_cons, ← inVs_flat l]; rfl
theorem ints16_sla (W0 : World) (R : List HP) (a1 a2 : Option Addr) (k1 k2 : Nat) (l1 l2 : List Nat) (e1 : l1.length < 1000000) (e2 : l2.length < 1000000) (h1 : SlA (OwnP W0 R) a1 1 (fun n => [inV n]) l1) (h2 : SlA (OwnP W0 R) a2 1 (fun n => [inV n]) l2) :
    Spec Try.prog W0 47 [.slice a1 l1.length k1, .slice a2 l2.length k2] R (fun v B => v = .bool (decide (l1 = l2)) ∧ B = R) := by
  refine spec_body Try.func47 Try.ntmps47 rfl rfl ?_
  refine x_seq ?_
  refine x_region ?_
  refine s_val rfl (v_assign rfl) ?_
  refine x_nil ?_
  refine n_then ?_
  refine x_seq ?_
  refine x_seq ?_
  refine x_region ?_
  refine s_val rfl (v_move rfl) ?_
  refine s_val rfl (v_len_slice Try.underlying56 rfl) ?_
  refine s_val rfl (v_move rfl) ?_
  refine s_val rfl (v_len_slice Try.underlying56 rfl) ?_
  refine s_val rfl (v_neq rfl rfl) ?_
  refine x_nil ?_
  refine n_then ?_
  refine x_if rfl ?_ ?_
  · intro c1
    refine x_seq ?_
    refine x_region ?_
    refine s_val rfl (v_assign rfl) ?_
    refine x_nil ?_
    refine n_then ?_
    refine x_ret ?_
    refine r_then ?_
    refine x_done (.inl rfl) (.cons (r_tmp rfl) .nil) ?_
    refine ⟨_, ⟨?_, rfl⟩, inferInstance⟩
    refine congrArg Value.bool (Eq.symm (decide_eq_false fun q => c1 ?_))
    rw [q]
  · intro c1
    have hl : l1.length = l2.length := by omega
    refine x_skip ?_
    refine n_then ?_
    refine x_seq ?_
    refine x_seq ?_
    refine x_region ?_
    refine s_val rfl (v_assign rfl) ?_
    refine x_nil ?_
    refine n_then ?_
    refine x_block ?_
    refine x_loop (fun i : Nat => i ≤ l1.length ∧ l1.take i = l2.take i) (fun i => [(0, .slice a1 l1.length k1), (1, .slice a2 l2.length k2), (5, .int .i64 i)]) (fun i => R) (fun i => l1.length - i) 0 ?_ ?_ ?_ ?_
    · exact ⟨Nat.zero_le _, rfl⟩
    · repeat (first | exact sub_nil | refine sub_cons rfl ?_)
    · exact inferInstance
    · intro i ⟨hi, hI⟩
      refine x_seq ?_
      refine x_seq ?_
      refine x_region ?_
      refine s_val rfl (v_move rfl) ?_
      refine s_val rfl (v_move rfl) ?_
      refine s_val rfl (v_len_slice Try.underlying56 rfl) ?_
      refine s_val rfl (v_lss rfl rfl) ?_
      refine s_val rfl (v_move rfl) ?_
      refine s_and rfl rfl rfl ?_ ?_
      · intro g4_5
        refine s_val rfl (v_move rfl) ?_
        refine s_yes rfl rfl ?_
        refine s_val rfl (v_move rfl) ?_
        refine s_yes rfl rfl ?_
        refine s_val rfl (v_len_slice Try.underlying56 rfl) ?_
        refine s_yes rfl rfl ?_
        refine s_val rfl (v_lss rfl rfl) ?_
        refine s_val rfl (v_pick_t rfl rfl) ?_
        refine x_nil ?_
        refine n_then ?_
        refine x_if rfl ?_ ?_
        · intro c4
          refine x_skip ?_
          refine n_then ?_
          refine x_seq ?_
          refine x_block ?_
          refine x_seq ?_
          have hi1 : i < l1.length := by omega
          have hi2 : i < l2.length := by omega
          obtain ⟨ga, oa, rfl, hc1⟩ := h1.at_ hi1
          obtain ⟨gb, ob, rfl, hc2⟩ := h2.at_ hi2
          refine x_draw [(ga, oa + i * 1, [inV l1[i]]), (gb, ob + i * 1, [inV l2[i]])] 9 mixed rfl (sc_cons hc1.weak (sc_cons hc2.weak sc_end)) (fun hS => ?_)
          refine d_take 0 rfl rfl (by kernel_rfl) (by kernel_rfl) (by kernel_rfl) rfl hS (v_move rfl) ?_
          refine d_take 1 rfl rfl (by kernel_rfl) (by kernel_rfl) (by kernel_rfl) rfl hS (v_move rfl) ?_
          refine d_take 2 rfl rfl (by kernel_rfl) (by kernel_rfl) (by kernel_rfl) rfl hS (v_idx Try.underlying56 Try.sizeOf3 rfl rfl rfl hi1 (by first | exact Nat.zero_add _ | rfl)) ?_
          refine d_take 3 rfl rfl (by kernel_rfl) (by kernel_rfl) (by kernel_rfl) rfl hS (v_load Try.isAgg3 rfl (cell_sc1 (k := 0) rfl)) ?_
          refine d_take 4 rfl rfl (by kernel_rfl) (by kernel_rfl) (by kernel_rfl) rfl hS (v_move rfl) ?_
          refine d_take 5 rfl rfl (by kernel_rfl) (by kernel_rfl) (by kernel_rfl) rfl hS (v_move rfl) ?_
          refine d_take 6 rfl rfl (by kernel_rfl) (by kernel_rfl) (by kernel_rfl) rfl hS (v_idx Try.underlying56 Try.sizeOf3 rfl rfl rfl hi2 (by first | exact Nat.zero_add _ | rfl)) ?_
          refine d_take 7 rfl rfl (by kernel_rfl) (by kernel_rfl) (by kernel_rfl) rfl hS (v_load Try.isAgg3 rfl (cell_sc1 (k := 1) rfl)) ?_
          refine d_take 8 rfl rfl (by kernel_rfl) (by kernel_rfl) (by kernel_rfl) rfl hS (v_neq rfl rfl) ?_
          refine d_done (by kernel_rfl) ?_; clear hS
          refine n_then ?_
          refine x_if rfl ?_ ?_
          · intro c6
            refine x_seq ?_
            refine x_region ?_
            refine s_val rfl (v_assign rfl) ?_
            refine x_nil ?_
            refine n_then ?_
            refine x_ret ?_
            refine r_block ?_
            refine r_then ?_
            refine r_then ?_
            refine r_block ?_
            refine r_then ?_
            refine x_done (.inl rfl) (.cons (r_tmp rfl) .nil) ?_
            refine ⟨_, ⟨?_, rfl⟩, inferInstance⟩
            refine congrArg Value.bool (Eq.symm (decide_eq_false fun q => c6 ?_))
            simp only [q]
          · intro c6
            refine x_skip ?_
            refine n_block ?_
            refine n_then ?_
            refine x_region ?_
            refine s_val rfl (v_move rfl) ?_
            refine s_val rfl (v_add rfl rfl (by first | exact w64 (by omega) | rfl)) ?_
            refine s_val rfl (v_assign rfl) ?_
            refine x_nil ?_
            refine n_then ?_
            refine inv_intro (i + 1) ?_ ?_ ?_ ?_
            · refine ⟨by omega, ?_⟩
              rw [List.take_succ_eq_append_getElem hi1, List.take_succ_eq_append_getElem hi2, hI, show l1[i] = l2[i] by omega]
            · omega
            · repeat (first | exact sub_nil | refine sub_cons rfl ?_)
            · exact inferInstance
        · intro c4
          refine x_exit ?_
          refine e_then ?_
          refine e_then ?_
          refine e_block ?_
          refine n_then ?_
          refine x_seq ?_
          refine x_region ?_
          refine s_val rfl (v_assign rfl) ?_
          refine x_nil ?_
          refine n_then ?_
          refine x_ret ?_
          refine x_done (.inl rfl) (.cons (r_tmp rfl) .nil) ?_
          refine ⟨_, ⟨?_, rfl⟩, inferInstance⟩
          refine congrArg Value.bool (Eq.symm (decide_eq_true ?_))
          have e0 : i = l1.length := by omega
          rw [e0, List.take_of_length_le (Nat.le_refl _), List.take_of_length_le (by omega)] at hI
          exact hI
      · intro g4_5
        refine s_no rfl rfl rfl rfl ?_
        refine s_no rfl rfl rfl rfl ?_
        refine s_no rfl rfl rfl rfl ?_
        refine s_val rfl (v_pick_f rfl rfl) ?_
        refine x_nil ?_
        refine n_then ?_
        refine x_iff rfl ?_
        refine x_exit ?_
        refine e_then ?_
        refine e_then ?_
        refine e_block ?_
        refine n_then ?_
        refine x_seq ?_
        refine x_region ?_
        refine s_val rfl (v_assign rfl) ?_
        refine x_nil ?_
        refine n_then ?_
        refine x_ret ?_
        refine x_done (.inl rfl) (.cons (r_tmp rfl) .nil) ?_
        refine ⟨_, ⟨?_, rfl⟩, inferInstance⟩
        refine congrArg Value.bool (Eq.symm (decide_eq_true ?_))
        have e0 : i = l1.length := by omega
        rw [e0, List.take_of_length_le (Nat.le_refl _), List.take_of_length_le (by omega)] at hI
        exact hI
theorem ints16_spec (W0 : World) (R : List HP) (a1 a2 : Option Addr) (k1 k2 : Nat) (l1 l2 : List Nat) (e1 : l1.length < 1000000) (e2 : l2.length < 1000000) :
    Spec Try.prog W0 47 [.slice a1 l1.length k1, .slice a2 l2.length k2] (osl 3 1 (.slice a1 l1.length k1) (inVs l1) :: osl 3 1 (.slice a2 l2.length k2) (inVs l2) :: R)
      (fun v B => v = .bool (decide (l1 = l2)) ∧ B = osl 3 1 (.slice a1 l1.length k1) (inVs l1) :: osl 3 1 (.slice a2 l2.length k2) (inVs l2) :: R) := by
  refine spec_sla (h := tk_here) (fun n => [inV n]) l1 (fun _ => rfl) (by decide) (inVs_flat _) (fun hs1 => ?_)
  refine spec_sla (h := tk_there (h := tk_here)) (fun n => [inV n]) l2 (fun _ => rfl) (by decide) (inVs_flat _) (fun hs2 => ?_)
  exact ints16_sla W0 _ a1 a2 k1 k2 l1 l2 e1 e2 hs1 hs2

structure Act16 where
  k : Int
  pa : Nat
  w : Int
  kind : Int
  x : Nat
  a : Option Addr
  bs : List Nat
  c : Nat
@[reducible] def act16V (t : Act16) : List Value := [.int .i64 t.k, .int .u32 t.pa, .int .i64 t.w, .int .i64 t.kind, .int .u32 t.x, .slice t.a t.bs.length t.c]
def Act16Ok (W : World) (t : Act16) : Prop := t.pa < 4294967296 ∧ t.x < 4294967296 ∧ By t.bs ∧ t.bs.length < 9223372036854775808 ∧ SlB W t.a 1 (fun x => [bV x]) t.bs
def fndP (n : Nat) (pg : List Pl) (pa : Nat) (w kind : Int) : Int := if fndE n pg pa w kind = 0 then ((pa / 64 : Nat) : Int) else 0
def fndF (n : Nat) (pg : List Pl) (pa : Nat) (w kind : Int) : Int := if fndE n pg pa w kind = 0 then (gGot pg ((pa / 64 : Nat) : Int)).1 else 0
def fndO (n : Nat) (pg : List Pl) (pa : Nat) (w kind : Int) : Int := if fndE n pg pa w kind = 0 then ((pa % 64 : Nat) : Int) else 0
theorem fndV_eq {n : Nat} {pg : List Pl} {pa : Nat} {w kind : Int} : fndV n pg pa w kind = [.int .i64 (fndP n pg pa w kind), .int .i64 (fndF n pg pa w kind), .int .i64 (fndO n pg pa w kind), .bool false] := by
  unfold fndV fndP fndF fndO; split <;> rfl
abbrev prH (pv ps pm qv qs qm d : Nat) (fr : List Frm) (pg : List Pl) (R : List HP) : List HP :=
  pt pv (viO ps pm d) :: stoH ps fr :: pt pm (gmO pg) :: pt qv (rvO qs qm d) :: rstoH qs fr :: pt qm (rgO pg) :: R

theorem ViewPlays_walk (W0 : World) (n : Nat) (hn : n < 256) (a a' al : Option Addr) (c c' cl : Nat) (pages : List Int) (pls : List Pl) (acts : List Act16) (h1 : SlB W0 a 1 inI pages) (h2 : SlB W0 a' 2 plV pls) (h3 : SlB W0 al 6 act16V acts) (hl1 : pages.length < 9223372036854775808) (hl2 : pls.length < 9223372036854775808) (hl3 : acts.length < 9223372036854775808)
    (hok : ∀ t ∈ acts, Act16Ok W0 t) :
    Spec Try.prog W0 11 [.int .u8 n, .slice a pages.length c, .slice a' pls.length c', .slice al acts.length cl] [] (fun v B => v = .bool true ∧ B = []) := by
  refine spec_body Try.func11 Try.ntmps11 rfl rfl ?_
  refine x_seq ?_
  refine x_region ?_
  refine s_val rfl (v_assign rfl) ?_
  refine x_nil ?_
  refine n_then ?_
  refine x_seq ?_
  refine x_region ?_
  refine s_val rfl (v_move rfl) ?_
  refine s_val rfl (v_move rfl) ?_
  refine s_val rfl (v_move rfl) ?_
  refine s_do rfl (d_call Try.call32 rfl (made16_spec W0 _ n hn _ _ _ _ pages pls (sla_base h1) (sla_base h2) hl1 hl2)) ?_
  rintro _ B_ ⟨pv, ps, pm, qv, qs, qm, rfl, hB_⟩
  obtain rfl := hB_.symm
  rw [mdH]
  have hP := pgK_ok pages pls (mdN pages pls)
  have hF0 := Frs.new (1 + n % 32)
  generalize pgK pages pls (mdN pages pls) = pg at hP
  generalize List.replicate (1 + n % 32) zeros = fr0 at hF0
  refine s_val rfl (v_move rfl) ?_
  refine s_val rfl (v_extract rfl rfl) ?_
  refine s_val rfl (v_extract rfl rfl) ?_
  refine s_val rfl (v_assign rfl) ?_
  refine s_val rfl (v_assign rfl) ?_
  refine x_nil ?_
  refine n_then ?_
  refine x_seq ?_
  refine x_seq ?_
  refine x_region ?_
  refine s_val rfl (v_move rfl) ?_
  refine s_val rfl (v_eql_ptr_nil Try.underlying58 rfl rfl) ?_
  refine s_val rfl (v_move rfl) ?_
  refine s_or rfl rfl rfl ?_ ?_
  · intro g2_3
    cases g2_3
  · intro g2_3
    refine s_val rfl (v_move rfl) ?_
    refine s_yes rfl rfl ?_
    refine s_val rfl (v_eql_ptr_nil Try.underlying59 rfl rfl) ?_
    refine s_val rfl (v_pick_f rfl rfl) ?_
    refine x_nil ?_
    refine n_then ?_
    refine x_if rfl ?_ ?_
    · intro c2
      cases c2
    · intro c2
      refine x_skip ?_
      refine n_then ?_
      refine x_seq ?_
      refine x_seq ?_
      refine x_region ?_
      refine s_val rfl (v_assign rfl) ?_
      refine x_nil ?_
      refine n_then ?_
      refine x_block ?_
      refine x_loop (fun X : Nat × List Frm × Nat => X.1 ≤ acts.length ∧ Frs X.2.1 ∧ X.2.2 < 4096) (fun X => [(3, .slice al acts.length cl), (9, .pointer (some ⟨pv, 0, none⟩)), (10, .pointer (some ⟨qv, 0, none⟩)), (11, .int .i64 X.1)]) (fun X => prH pv ps pm qv qs qm X.2.2 X.2.1 pg []) (fun X => 60 - X.1) (0, fr0, 0) ?_ ?_ ?_ ?_
      · exact ⟨Nat.zero_le _, hF0, (by show (0 : Nat) < 4096; decide)⟩
      · repeat (first | exact sub_nil | refine sub_cons rfl ?_)
      · exact inferInstance
      · intro ⟨i, fr, d⟩ ⟨hi, hF, hd⟩
        dsimp only at hi hF hd ⊢
        refine x_seq ?_
        refine x_seq ?_
        refine x_region ?_
        refine s_val rfl (v_move rfl) ?_
        refine s_val rfl (v_move rfl) ?_
        refine s_val rfl (v_len_slice Try.underlying91 rfl) ?_
        refine s_val rfl (v_lss rfl rfl) ?_
        refine s_val rfl (v_move rfl) ?_
        refine s_and rfl rfl rfl ?_ ?_
        · intro g5_5
          refine s_val rfl (v_move rfl) ?_
          refine s_yes rfl rfl ?_
          refine s_val rfl (v_lss rfl rfl) ?_
          refine s_val rfl (v_pick_t rfl rfl) ?_
          refine x_nil ?_
          refine n_then ?_
          refine x_if rfl ?_ ?_
          · intro c5
            refine x_skip ?_
            refine n_then ?_
            refine x_seq ?_
            refine x_block ?_
            refine x_seq ?_
            have hil : i < acts.length := by omega
            obtain ⟨ga, oa, rfl, hca⟩ := h3 i acts[i] (by simp [hil])
            obtain ⟨hpa, hx, hb, hbl, hsb⟩ := hok acts[i] (List.getElem_mem hil)
            generalize acts[i] = t at hca hpa hx hb hbl hsb
            refine x_region ?_
            refine s_val rfl (v_move rfl) ?_
            refine s_val rfl (v_move rfl) ?_
            refine s_val rfl (v_idx Try.underlying91 Try.sizeOf93 rfl rfl rfl (by omega) (by first | exact Nat.zero_add _ | rfl)) ?_
            refine s_val rfl (v_loadAgg Try.isAgg93 Try.sizeOf93 rfl (hca _) rfl) ?_
            refine s_do rfl (d_allocA Try.zeroValue93) ?_
            rintro _ _ ⟨b1, rfl, rfl⟩
            refine s_do0 (d_storeAll Try.sizeOf93 rfl rfl rfl rfl rfl) ?_
            rintro _ _ rfl
            refine x_nil ?_
            refine n_then ?_
            refine x_cut (fun Z : List Frm × Nat => Frs Z.1 ∧ Z.2 < 4096) (fun Z => [(3, .slice (some ⟨ga, oa, none⟩) acts.length cl), (9, .pointer (some ⟨pv, 0, none⟩)), (10, .pointer (some ⟨qv, 0, none⟩)), (11, .int .i64 i), (12, .pointer (some ⟨b1, 0, none⟩))]) (fun Z => pt b1 (cob (act16V t) 93) :: prH pv ps pm qv qs qm Z.2 Z.1 pg []) ?_ ?_
            · skip
              refine x_seq ?_
              refine x_region ?_
              refine s_val rfl (v_fieldAddr rfl Try.underlying93 rfl Try.sizeOf3 rfl (by first | exact Nat.zero_add _ | rfl)) ?_
              refine s_val rfl (v_load Try.isAgg3 rfl (cell_own rfl)) ?_
              refine x_nil ?_
              refine n_then ?_
              refine x_block ?_
              refine x_seq ?_
              refine x_region ?_
              refine s_val rfl (v_eql rfl rfl) ?_
              refine s_val rfl (v_assign rfl) ?_
              refine x_nil ?_
              refine n_then ?_
              refine x_if rfl ?_ ?_
              · intro c11
                refine x_seq ?_
                refine x_draw [(b1, 0, _)] 13 mixed rfl (sc_own sc_end) (fun hS => ?_)
                refine d_take 0 rfl rfl (by kernel_rfl) (by kernel_rfl) (by kernel_rfl) rfl hS (v_move rfl) ?_
                refine d_take 1 rfl rfl (by kernel_rfl) (by kernel_rfl) (by kernel_rfl) rfl hS (v_fieldAddr rfl Try.underlying93 rfl Try.sizeOf24 rfl (by first | exact Nat.zero_add _ | rfl)) ?_
                refine d_take 2 rfl rfl (by kernel_rfl) (by kernel_rfl) (by kernel_rfl) rfl hS (v_load Try.isAgg24 rfl (cell_sc0 (k := 0) rfl rfl)) ?_
                refine d_take 3 rfl rfl (by kernel_rfl) (by kernel_rfl) (by kernel_rfl) rfl hS (v_fieldAddr rfl Try.underlying93 rfl Try.sizeOf64 rfl (by first | exact Nat.zero_add _ | rfl)) ?_
                refine d_take 4 rfl rfl (by kernel_rfl) (by kernel_rfl) (by kernel_rfl) rfl hS (v_load Try.isAgg64 rfl (cell_sc0 (k := 0) rfl rfl)) ?_
                refine d_take 6 rfl rfl (by kernel_rfl) (by kernel_rfl) (by kernel_rfl) rfl hS (v_move rfl) ?_
                refine d_take 7 rfl rfl (by kernel_rfl) (by kernel_rfl) (by kernel_rfl) rfl hS (v_fieldAddr rfl Try.underlying93 rfl Try.sizeOf24 rfl (by first | exact Nat.zero_add _ | rfl)) ?_
                refine d_take 8 rfl rfl (by kernel_rfl) (by kernel_rfl) (by kernel_rfl) rfl hS (v_load Try.isAgg24 rfl (cell_sc0 (k := 0) rfl rfl)) ?_
                refine d_take 9 rfl rfl (by kernel_rfl) (by kernel_rfl) (by kernel_rfl) rfl hS (v_fieldAddr rfl Try.underlying93 rfl Try.sizeOf64 rfl (by first | exact Nat.zero_add _ | rfl)) ?_
                refine d_take 10 rfl rfl (by kernel_rfl) (by kernel_rfl) (by kernel_rfl) rfl hS (v_load Try.isAgg64 rfl (cell_sc0 (k := 0) rfl rfl)) ?_
                refine d_one 5 (by kernel_rfl) rfl rfl (d_call3 Try.call42 rfl (viWrite_spec W0 _ pv ps pm d t.c t.a fr pg hP hF hd t.pa hpa t.bs hb (sla_base hsb) hbl)) rfl ?_; clear hS
                rintro _ B_ ⟨rfl, hB_⟩
                obtain rfl := hB_.symm
                refine ⟨(sc_own sc_end), fun hS => ?_⟩
                refine d_one 11 (by kernel_rfl) rfl rfl (d_call3 Try.call46 rfl (rvWrite_spec W0 _ qv qs qm d t.c t.a fr pg hP hF t.pa hpa t.bs hb (sla_base hsb) hbl)) rfl ?_; clear hS
                rintro _ B_ ⟨rfl, hB_⟩
                obtain rfl := hB_.symm
                refine ⟨(sc_own sc_end), fun hS => ?_⟩
                refine d_take 12 rfl rfl (by kernel_rfl) (by kernel_rfl) (by kernel_rfl) rfl hS (v_neq_bool Try.underlying4 rfl rfl) ?_
                refine d_done (by kernel_rfl) ?_; clear hS
                refine n_then ?_
                refine x_if rfl ?_ ?_
                · intro c12
                  exact absurd rfl c12
                · intro c12
                  refine x_skip ?_
                  refine n_block ?_
                  refine n_then ?_
                  refine mid_intro (wrF fr pg t.pa t.bs, wrE fr pg t.pa d t.bs.length) ?_ ?_ ?_
                  · exact ⟨(wrF_ok hF).1, wrE_lt hd⟩
                  · repeat (first | exact sub_nil | refine sub_cons rfl ?_)
                  · exact inferInstance
              · intro c11
                refine x_seq ?_
                refine x_region ?_
                refine s_val rfl (v_eql rfl rfl) ?_
                refine s_val rfl (v_assign rfl) ?_
                refine x_nil ?_
                refine n_then ?_
                refine x_if rfl ?_ ?_
                · intro c14
                  refine x_seq ?_
                  refine x_region ?_
                  refine s_val rfl (v_move rfl) ?_
                  refine s_do rfl (d_call1 Try.call43 rfl (viDirty_spec W0 _ pv ps pm d hd)) ?_
                  rintro _ B_ ⟨a1, c1, rfl, hB_⟩
                  obtain rfl := hB_.symm
                  refine s_val rfl (v_move rfl) ?_
                  refine s_do rfl (d_call1 Try.call48 rfl (rvDirty_spec W0 _ qv qs qm d)) ?_
                  rintro _ B_ ⟨a2, c2, rfl, hB_⟩
                  obtain rfl := hB_.symm
                  refine s_do rfl (d_call2 Try.call47 rfl (ints16_spec W0 _ a1 a2 c1 c2 _ _ (Nat.lt_of_le_of_lt (drL_len d 12) (by decide)) (Nat.lt_of_le_of_lt (drL_len d 12) (by decide)))) ?_
                  rintro _ B_ ⟨rfl, hB_⟩
                  obtain rfl := hB_.symm
                  refine s_val rfl (v_not rfl) ?_
                  refine x_nil ?_
                  refine n_then ?_
                  refine x_if rfl ?_ ?_
                  · intro c15
                    exact absurd (by simp) c15
                  · intro c15
                    refine x_skip ?_
                    refine n_block ?_
                    refine n_then ?_
                    refine mid_intro (fr, 0) ?_ ?_ ?_
                    · exact ⟨hF, (by show (0 : Nat) < 4096; decide)⟩
                    · repeat (first | exact sub_nil | refine sub_cons rfl ?_)
                    · exact inferInstance
                · intro c14
                  refine x_seq ?_
                  refine x_draw [(b1, 0, _)] 17 mixed rfl (sc_own sc_end) (fun hS => ?_)
                  refine d_take 0 rfl rfl (by kernel_rfl) (by kernel_rfl) (by kernel_rfl) rfl hS (v_move rfl) ?_
                  refine d_take 1 rfl rfl (by kernel_rfl) (by kernel_rfl) (by kernel_rfl) rfl hS (v_fieldAddr rfl Try.underlying93 rfl Try.sizeOf24 rfl (by first | exact Nat.zero_add _ | rfl)) ?_
                  refine d_take 2 rfl rfl (by kernel_rfl) (by kernel_rfl) (by kernel_rfl) rfl hS (v_load Try.isAgg24 rfl (cell_sc0 (k := 0) rfl rfl)) ?_
                  refine d_take 3 rfl rfl (by kernel_rfl) (by kernel_rfl) (by kernel_rfl) rfl hS (v_fieldAddr rfl Try.underlying93 rfl Try.sizeOf3 rfl (by first | exact Nat.zero_add _ | rfl)) ?_
                  refine d_take 4 rfl rfl (by kernel_rfl) (by kernel_rfl) (by kernel_rfl) rfl hS (v_load Try.isAgg3 rfl (cell_sc0 (k := 0) rfl rfl)) ?_
                  refine d_take 5 rfl rfl (by kernel_rfl) (by kernel_rfl) (by kernel_rfl) rfl hS (v_fieldAddr rfl Try.underlying93 rfl Try.sizeOf24 rfl (by first | exact Nat.zero_add _ | rfl)) ?_
                  refine d_take 6 rfl rfl (by kernel_rfl) (by kernel_rfl) (by kernel_rfl) rfl hS (v_load Try.isAgg24 rfl (cell_sc0 (k := 0) rfl rfl)) ?_
                  refine d_take 8 rfl rfl (by kernel_rfl) (by kernel_rfl) (by kernel_rfl) rfl hS (v_move rfl) ?_
                  refine d_take 9 rfl rfl (by kernel_rfl) (by kernel_rfl) (by kernel_rfl) rfl hS (v_fieldAddr rfl Try.underlying93 rfl Try.sizeOf24 rfl (by first | exact Nat.zero_add _ | rfl)) ?_
                  refine d_take 10 rfl rfl (by kernel_rfl) (by kernel_rfl) (by kernel_rfl) rfl hS (v_load Try.isAgg24 rfl (cell_sc0 (k := 0) rfl rfl)) ?_
                  refine d_take 11 rfl rfl (by kernel_rfl) (by kernel_rfl) (by kernel_rfl) rfl hS (v_fieldAddr rfl Try.underlying93 rfl Try.sizeOf3 rfl (by first | exact Nat.zero_add _ | rfl)) ?_
                  refine d_take 12 rfl rfl (by kernel_rfl) (by kernel_rfl) (by kernel_rfl) rfl hS (v_load Try.isAgg3 rfl (cell_sc0 (k := 0) rfl rfl)) ?_
                  refine d_take 13 rfl rfl (by kernel_rfl) (by kernel_rfl) (by kernel_rfl) rfl hS (v_fieldAddr rfl Try.underlying93 rfl Try.sizeOf24 rfl (by first | exact Nat.zero_add _ | rfl)) ?_
                  refine d_take 14 rfl rfl (by kernel_rfl) (by kernel_rfl) (by kernel_rfl) rfl hS (v_load Try.isAgg24 rfl (cell_sc0 (k := 0) rfl rfl)) ?_
                  refine d_one 7 (by kernel_rfl) rfl rfl (d_call3 Try.call41 rfl (viSave_spec W0 _ pv ps pm d fr pg hP hF hd t.pa hpa t.w t.x hx)) rfl ?_; clear hS
                  rintro _ B_ ⟨rfl, hB_⟩
                  obtain rfl := hB_.symm
                  refine ⟨(sc_own sc_end), fun hS => ?_⟩
                  refine d_one 15 (by kernel_rfl) rfl rfl (d_call3 Try.call49 rfl (rvSave_spec W0 _ qv qs qm d fr pg hP hF t.pa hpa t.w t.x hx)) rfl ?_; clear hS
                  rintro _ B_ ⟨rfl, hB_⟩
                  obtain rfl := hB_.symm
                  refine ⟨(sc_own sc_end), fun hS => ?_⟩
                  refine d_take 16 rfl rfl (by kernel_rfl) (by kernel_rfl) (by kernel_rfl) rfl hS (v_neq rfl rfl) ?_
                  refine d_done (by kernel_rfl) ?_; clear hS
                  refine n_then ?_
                  refine x_if rfl ?_ ?_
                  · intro c9
                    exact absurd rfl c9
                  · intro c9
                    refine x_skip ?_
                    refine n_block ?_
                    refine n_then ?_
                    refine mid_intro (vsvF fr pg t.pa t.w t.x, vsvD fr pg t.pa t.w d) ?_ ?_ ?_
                    · exact ⟨(vsvF_ok hF).1, vsvD_lt hd⟩
                    · repeat (first | exact sub_nil | refine sub_cons rfl ?_)
                    · exact inferInstance
            · intro ⟨fr', d'⟩ ⟨hF', hd'⟩
              dsimp only at hF' hd' ⊢
              refine x_seq ?_
              refine x_region ?_
              refine s_val rfl (v_move rfl) ?_
              refine s_val rfl (v_fieldAddr rfl Try.underlying93 rfl Try.sizeOf24 rfl (by first | exact Nat.zero_add _ | rfl)) ?_
              refine s_val rfl (v_load Try.isAgg24 rfl (cell_own rfl)) ?_
              refine s_val rfl (v_fieldAddr rfl Try.underlying93 rfl Try.sizeOf3 rfl (by first | exact Nat.zero_add _ | rfl)) ?_
              refine s_val rfl (v_load Try.isAgg3 rfl (cell_own rfl)) ?_
              refine s_val rfl (v_fieldAddr rfl Try.underlying93 rfl Try.sizeOf3 rfl (by first | exact Nat.zero_add _ | rfl)) ?_
              refine s_val rfl (v_load Try.isAgg3 rfl (cell_own rfl)) ?_
              refine s_do rfl (d_call3 Try.call35 rfl (viFind_spec W0 _ pv ps pm d' fr' pg hP t.pa hpa t.w t.kind)) ?_
              rintro _ B_ ⟨rfl, hB_⟩
              obtain rfl := hB_.symm
              rw [fndV_eq]
              refine s_val rfl (v_move rfl) ?_
              refine s_val rfl (v_extract rfl rfl) ?_
              refine s_val rfl (v_extract rfl rfl) ?_
              refine s_do rfl (d_allocA Try.zeroValue70) ?_
              rintro _ _ ⟨bh, rfl, rfl⟩
              refine s_do0 (d_storeAll Try.sizeOf70 rfl rfl rfl rfl rfl) ?_
              rintro _ _ rfl
              refine s_val rfl (v_assign rfl) ?_
              refine x_nil ?_
              refine n_then ?_
              refine x_seq ?_
              refine x_region ?_
              refine s_val rfl (v_move rfl) ?_
              refine s_val rfl (v_fieldAddr rfl Try.underlying93 rfl Try.sizeOf24 rfl (by first | exact Nat.zero_add _ | rfl)) ?_
              refine s_val rfl (v_load Try.isAgg24 rfl (cell_own rfl)) ?_
              refine s_val rfl (v_fieldAddr rfl Try.underlying93 rfl Try.sizeOf3 rfl (by first | exact Nat.zero_add _ | rfl)) ?_
              refine s_val rfl (v_load Try.isAgg3 rfl (cell_own rfl)) ?_
              refine s_val rfl (v_fieldAddr rfl Try.underlying93 rfl Try.sizeOf3 rfl (by first | exact Nat.zero_add _ | rfl)) ?_
              refine s_val rfl (v_load Try.isAgg3 rfl (cell_own rfl)) ?_
              refine s_do rfl (d_call3 Try.call50 rfl (rvFind_spec W0 _ qv qs qm d' fr' pg hP t.pa hpa t.w t.kind)) ?_
              rintro _ B_ ⟨rfl, hB_⟩
              obtain rfl := hB_.symm
              rw [fndV_eq]
              refine s_val rfl (v_move rfl) ?_
              refine s_val rfl (v_extract rfl rfl) ?_
              refine s_val rfl (v_extract rfl rfl) ?_
              refine s_do rfl (d_allocA Try.zeroValue70) ?_
              rintro _ _ ⟨bk, rfl, rfl⟩
              refine s_do0 (d_storeAll Try.sizeOf70 rfl rfl rfl rfl rfl) ?_
              rintro _ _ rfl
              refine s_val rfl (v_assign rfl) ?_
              refine x_nil ?_
              refine n_then ?_
              refine x_seq ?_
              refine x_region ?_
              refine s_val rfl (v_move rfl) ?_
              refine s_val rfl (v_fieldAddr rfl Try.underlying93 rfl Try.sizeOf24 rfl (by first | exact Nat.zero_add _ | rfl)) ?_
              refine s_val rfl (v_load Try.isAgg24 rfl (cell_own rfl)) ?_
              refine s_val rfl (v_fieldAddr rfl Try.underlying93 rfl Try.sizeOf3 rfl (by first | exact Nat.zero_add _ | rfl)) ?_
              refine s_val rfl (v_load Try.isAgg3 rfl (cell_own rfl)) ?_
              refine s_do rfl (d_call3 Try.call36 rfl (viLoad_spec W0 _ pv ps pm d' fr' pg hP hF' t.pa hpa t.w)) ?_
              rintro _ B_ ⟨rfl, hB_⟩
              obtain rfl := hB_.symm
              refine s_val rfl (v_move rfl) ?_
              refine s_val rfl (v_extract rfl rfl) ?_
              refine s_val rfl (v_extract rfl rfl) ?_
              refine s_val rfl (v_assign rfl) ?_
              refine s_val rfl (v_assign rfl) ?_
              refine x_nil ?_
              refine n_then ?_
              refine x_seq ?_
              refine x_region ?_
              refine s_val rfl (v_move rfl) ?_
              refine s_val rfl (v_fieldAddr rfl Try.underlying93 rfl Try.sizeOf24 rfl (by first | exact Nat.zero_add _ | rfl)) ?_
              refine s_val rfl (v_load Try.isAgg24 rfl (cell_own rfl)) ?_
              refine s_val rfl (v_fieldAddr rfl Try.underlying93 rfl Try.sizeOf3 rfl (by first | exact Nat.zero_add _ | rfl)) ?_
              refine s_val rfl (v_load Try.isAgg3 rfl (cell_own rfl)) ?_
              refine s_do rfl (d_call3 Try.call51 rfl (rvLoad_spec W0 _ qv qs qm d' fr' pg hP hF' t.pa hpa t.w)) ?_
              rintro _ B_ ⟨rfl, hB_⟩
              obtain rfl := hB_.symm
              refine s_val rfl (v_move rfl) ?_
              refine s_val rfl (v_extract rfl rfl) ?_
              refine s_val rfl (v_extract rfl rfl) ?_
              refine s_val rfl (v_assign rfl) ?_
              refine s_val rfl (v_assign rfl) ?_
              refine x_nil ?_
              refine n_then ?_
              refine x_seq ?_
              refine x_region ?_
              refine s_val rfl (v_move rfl) ?_
              refine s_val rfl (v_fieldAddr rfl Try.underlying93 rfl Try.sizeOf24 rfl (by first | exact Nat.zero_add _ | rfl)) ?_
              refine s_val rfl (v_load Try.isAgg24 rfl (cell_own rfl)) ?_
              refine s_val rfl (v_fieldAddr rfl Try.underlying93 rfl Try.sizeOf64 rfl (by first | exact Nat.zero_add _ | rfl)) ?_
              refine s_val rfl (v_load Try.isAgg64 rfl (cell_own rfl)) ?_
              refine s_val rfl (v_len_slice Try.underlying64 rfl) ?_
              refine s_do rfl (d_call3 Try.call37 rfl (viRead_spec W0 _ pv ps pm d' fr' pg hP hF' t.pa hpa t.bs.length)) ?_
              rintro _ B_ ⟨a1, k1, rfl, hB_⟩
              obtain rfl := hB_.symm
              refine s_val rfl (v_move rfl) ?_
              refine s_val rfl (v_extract rfl rfl) ?_
              refine s_val rfl (v_extract rfl rfl) ?_
              refine s_val rfl (v_assign rfl) ?_
              refine s_val rfl (v_assign rfl) ?_
              refine x_nil ?_
              refine n_then ?_
              refine x_seq ?_
              refine x_region ?_
              refine s_val rfl (v_move rfl) ?_
              refine s_val rfl (v_fieldAddr rfl Try.underlying93 rfl Try.sizeOf24 rfl (by first | exact Nat.zero_add _ | rfl)) ?_
              refine s_val rfl (v_load Try.isAgg24 rfl (cell_own rfl)) ?_
              refine s_val rfl (v_fieldAddr rfl Try.underlying93 rfl Try.sizeOf64 rfl (by first | exact Nat.zero_add _ | rfl)) ?_
              refine s_val rfl (v_load Try.isAgg64 rfl (cell_own rfl)) ?_
              refine s_val rfl (v_len_slice Try.underlying64 rfl) ?_
              refine s_do rfl (d_call3 Try.call52 rfl (rvRead_spec W0 _ qv qs qm d' fr' pg hP hF' t.pa hpa t.bs.length)) ?_
              rintro _ B_ ⟨a2, k2, rfl, hB_⟩
              obtain rfl := hB_.symm
              refine s_val rfl (v_move rfl) ?_
              refine s_val rfl (v_extract rfl rfl) ?_
              refine s_val rfl (v_extract rfl rfl) ?_
              refine s_val rfl (v_assign rfl) ?_
              refine s_val rfl (v_assign rfl) ?_
              refine x_nil ?_
              refine n_then ?_
              refine x_seq ?_
              refine run_form (E := 5) (sz := 1) (a := a1) (c := k1) (n := (rdO fr' pg t.pa t.bs.length).length) (fun hf1 => ?_)
              refine run_form (E := 5) (sz := 1) (a := a2) (c := k2) (n := (rdO fr' pg t.pa t.bs.length).length) (fun hf2 => ?_)
              refine x_draw [(b1, 0, _), (bh, 0, _), (bk, 0, _), (obk a1, 0, byV (rdO fr' pg t.pa t.bs.length)), (obk a2, 0, byV (rdO fr' pg t.pa t.bs.length))] 45 mixed rfl (sc_own (sc_own (sc_own (sc_cons (cells_osl (E := 5) (sz := 1) (a := a1) (c := k1) (n := (rdO fr' pg t.pa t.bs.length).length)) (sc_cons (cells_osl (E := 5) (sz := 1) (a := a2) (c := k2) (n := (rdO fr' pg t.pa t.bs.length).length)) sc_end))))) (fun hS => ?_)
              refine d_take 0 rfl rfl (by kernel_rfl) (by kernel_rfl) (by kernel_rfl) rfl hS (v_loadAgg Try.isAgg70 Try.sizeOf70 rfl (by first | exact cells_sc (k := 0) rfl | exact cells_sc (k := 1) rfl | exact cells_sc (k := 2) rfl | exact cells_sc (k := 3) rfl | exact cells_sc (k := 4) rfl | exact cells_sc (k := 5) rfl | exact cells_sc (k := 6) rfl) rfl) ?_
              refine d_take 1 rfl rfl (by kernel_rfl) (by kernel_rfl) (by kernel_rfl) rfl hS (v_loadAgg Try.isAgg70 Try.sizeOf70 rfl (by first | exact cells_sc (k := 0) rfl | exact cells_sc (k := 1) rfl | exact cells_sc (k := 2) rfl | exact cells_sc (k := 3) rfl | exact cells_sc (k := 4) rfl | exact cells_sc (k := 5) rfl | exact cells_sc (k := 6) rfl) rfl) ?_
              refine d_take 2 rfl rfl (by kernel_rfl) (by kernel_rfl) (by kernel_rfl) rfl hS (v_neq_agg Try.eqGuardType70 rfl rfl (q_struct Try.underlying70 Try.stoodInHeld70 (qf_scal rfl Try.isAgg3 rfl rfl (q_int Try.underlying3) (qf_scal rfl Try.isAgg3 rfl rfl (q_int Try.underlying3) (qf_scal rfl Try.isAgg3 rfl rfl (q_int Try.underlying3) (qf_scal rfl Try.isAgg4 rfl rfl (q_bool Try.underlying4) qf_nil)))))) ?_
              refine d_take 3 rfl rfl (by kernel_rfl) (by kernel_rfl) (by kernel_rfl) rfl hS (v_move rfl) ?_
              refine x_split (t := 157) rfl ?_ ?_
              · intro g23_4
                exact absurd g23_4 (by simp)
              · intro g23_4
                refine d_take 4 rfl rfl (by kernel_rfl) (by kernel_rfl) (by kernel_rfl) rfl hS (v_move rfl) ?_
                refine d_take 5 rfl rfl (by kernel_rfl) (by kernel_rfl) (by kernel_rfl) rfl hS (v_move rfl) ?_
                refine d_take 6 rfl rfl (by kernel_rfl) (by kernel_rfl) (by kernel_rfl) rfl hS (v_neq rfl rfl) ?_
                refine d_take 7 rfl rfl (by kernel_rfl) (by kernel_rfl) (by kernel_rfl) rfl hS (v_pick_f rfl rfl) ?_
                refine d_take 8 rfl rfl (by kernel_rfl) (by kernel_rfl) (by kernel_rfl) rfl hS (v_move rfl) ?_
                refine x_split (t := 162) rfl ?_ ?_
                · intro g23_9
                  exact absurd g23_9 (by simp)
                · intro g23_9
                  refine d_take 9 rfl rfl (by kernel_rfl) (by kernel_rfl) (by kernel_rfl) rfl hS (v_move rfl) ?_
                  refine d_take 10 rfl rfl (by kernel_rfl) (by kernel_rfl) (by kernel_rfl) rfl hS (v_move rfl) ?_
                  refine d_take 11 rfl rfl (by kernel_rfl) (by kernel_rfl) (by kernel_rfl) rfl hS (v_neq rfl rfl) ?_
                  refine d_take 12 rfl rfl (by kernel_rfl) (by kernel_rfl) (by kernel_rfl) rfl hS (v_pick_f rfl rfl) ?_
                  refine d_take 13 rfl rfl (by kernel_rfl) (by kernel_rfl) (by kernel_rfl) rfl hS (v_move rfl) ?_
                  refine x_split (t := 167) rfl ?_ ?_
                  · intro g23_14
                    exact absurd g23_14 (by simp)
                  · intro g23_14
                    refine d_take 14 rfl rfl (by kernel_rfl) (by kernel_rfl) (by kernel_rfl) rfl hS (v_move rfl) ?_
                    refine d_take 15 rfl rfl (by kernel_rfl) (by kernel_rfl) (by kernel_rfl) rfl hS (v_move rfl) ?_
                    refine d_take 16 rfl rfl (by kernel_rfl) (by kernel_rfl) (by kernel_rfl) rfl hS (v_neq rfl rfl) ?_
                    refine d_take 17 rfl rfl (by kernel_rfl) (by kernel_rfl) (by kernel_rfl) rfl hS (v_pick_f rfl rfl) ?_
                    refine d_take 18 rfl rfl (by kernel_rfl) (by kernel_rfl) (by kernel_rfl) rfl hS (v_move rfl) ?_
                    refine x_split (t := 172) rfl ?_ ?_
                    · intro g23_19
                      exact absurd g23_19 (by simp)
                    · intro g23_19
                      refine d_take 19 rfl rfl (by kernel_rfl) (by kernel_rfl) (by kernel_rfl) rfl hS (v_move rfl) ?_
                      refine d_take 20 rfl rfl (by kernel_rfl) (by kernel_rfl) (by kernel_rfl) rfl hS (v_bstrS Try.underlying64 Try.underlying5 Try.underlying9 rfl (sla_cells hf1 (cells_sc (k := 3) rfl) (fun _ => rfl) (byV_flat _).symm (by decide))) ?_
                      refine d_take 21 rfl rfl (by kernel_rfl) (by kernel_rfl) (by kernel_rfl) rfl hS (v_move rfl) ?_
                      refine d_take 22 rfl rfl (by kernel_rfl) (by kernel_rfl) (by kernel_rfl) rfl hS (v_bstrS Try.underlying64 Try.underlying5 Try.underlying9 rfl (sla_cells hf2 (cells_sc (k := 4) rfl) (fun _ => rfl) (byV_flat _).symm (by decide))) ?_
                      refine d_take 23 rfl rfl (by kernel_rfl) (by kernel_rfl) (by kernel_rfl) rfl hS (v_neq_str rfl rfl) ?_
                      refine d_take 24 rfl rfl (by kernel_rfl) (by kernel_rfl) (by kernel_rfl) rfl hS (v_pick_f rfl rfl) ?_
                      refine d_take 25 rfl rfl (by kernel_rfl) (by kernel_rfl) (by kernel_rfl) rfl hS (v_move rfl) ?_
                      refine x_split (t := 179) rfl ?_ ?_
                      · intro g23_26
                        exact absurd g23_26 (by simp)
                      · intro g23_26
                        refine d_take 26 rfl rfl (by kernel_rfl) (by kernel_rfl) (by kernel_rfl) rfl hS (v_move rfl) ?_
                        refine d_take 27 rfl rfl (by kernel_rfl) (by kernel_rfl) (by kernel_rfl) rfl hS (v_move rfl) ?_
                        refine d_take 28 rfl rfl (by kernel_rfl) (by kernel_rfl) (by kernel_rfl) rfl hS (v_neq_bool Try.underlying4 rfl rfl) ?_
                        refine d_take 29 rfl rfl (by kernel_rfl) (by kernel_rfl) (by kernel_rfl) rfl hS (v_pick_f rfl rfl) ?_
                        refine d_take 30 rfl rfl (by kernel_rfl) (by kernel_rfl) (by kernel_rfl) rfl hS (v_move rfl) ?_
                        refine x_split (t := 184) rfl ?_ ?_
                        · intro g23_31
                          exact absurd g23_31 (by simp)
                        · intro g23_31
                          refine d_take 31 rfl rfl (by kernel_rfl) (by kernel_rfl) (by kernel_rfl) rfl hS (v_move rfl) ?_
                          refine d_take 32 rfl rfl (by kernel_rfl) (by kernel_rfl) (by kernel_rfl) rfl hS (v_fieldAddr rfl Try.underlying93 rfl Try.sizeOf24 rfl (by first | exact Nat.zero_add _ | rfl)) ?_
                          refine d_take 33 rfl rfl (by kernel_rfl) (by kernel_rfl) (by kernel_rfl) rfl hS (v_load Try.isAgg24 rfl (by first | exact cell_sc0 (k := 0) rfl rfl | exact cell_sc0 (k := 1) rfl rfl | exact cell_sc0 (k := 2) rfl rfl | exact cell_sc0 (k := 3) rfl rfl | exact cell_sc0 (k := 4) rfl rfl | exact cell_sc0 (k := 5) rfl rfl | exact cell_sc0 (k := 6) rfl rfl)) ?_
                          refine d_take 34 rfl rfl (by kernel_rfl) (by kernel_rfl) (by kernel_rfl) rfl hS (v_fieldAddr rfl Try.underlying93 rfl Try.sizeOf3 rfl (by first | exact Nat.zero_add _ | rfl)) ?_
                          refine d_take 35 rfl rfl (by kernel_rfl) (by kernel_rfl) (by kernel_rfl) rfl hS (v_load Try.isAgg3 rfl (by first | exact cell_sc0 (k := 0) rfl rfl | exact cell_sc0 (k := 1) rfl rfl | exact cell_sc0 (k := 2) rfl rfl | exact cell_sc0 (k := 3) rfl rfl | exact cell_sc0 (k := 4) rfl rfl | exact cell_sc0 (k := 5) rfl rfl | exact cell_sc0 (k := 6) rfl rfl)) ?_
                          refine d_take 37 rfl rfl (by kernel_rfl) (by kernel_rfl) (by kernel_rfl) rfl hS (v_move rfl) ?_
                          refine d_take 38 rfl rfl (by kernel_rfl) (by kernel_rfl) (by kernel_rfl) rfl hS (v_fieldAddr rfl Try.underlying93 rfl Try.sizeOf24 rfl (by first | exact Nat.zero_add _ | rfl)) ?_
                          refine d_take 39 rfl rfl (by kernel_rfl) (by kernel_rfl) (by kernel_rfl) rfl hS (v_load Try.isAgg24 rfl (by first | exact cell_sc0 (k := 0) rfl rfl | exact cell_sc0 (k := 1) rfl rfl | exact cell_sc0 (k := 2) rfl rfl | exact cell_sc0 (k := 3) rfl rfl | exact cell_sc0 (k := 4) rfl rfl | exact cell_sc0 (k := 5) rfl rfl | exact cell_sc0 (k := 6) rfl rfl)) ?_
                          refine d_take 40 rfl rfl (by kernel_rfl) (by kernel_rfl) (by kernel_rfl) rfl hS (v_fieldAddr rfl Try.underlying93 rfl Try.sizeOf3 rfl (by first | exact Nat.zero_add _ | rfl)) ?_
                          refine d_take 41 rfl rfl (by kernel_rfl) (by kernel_rfl) (by kernel_rfl) rfl hS (v_load Try.isAgg3 rfl (by first | exact cell_sc0 (k := 0) rfl rfl | exact cell_sc0 (k := 1) rfl rfl | exact cell_sc0 (k := 2) rfl rfl | exact cell_sc0 (k := 3) rfl rfl | exact cell_sc0 (k := 4) rfl rfl | exact cell_sc0 (k := 5) rfl rfl | exact cell_sc0 (k := 6) rfl rfl)) ?_
                          refine d_one 36 (by kernel_rfl) rfl rfl (d_call3 Try.call33 rfl (viOwn_spec W0 _ pv ps pm d' fr' pg hP t.pa hpa t.w)) rfl ?_; clear hS
                          rintro _ B_ ⟨rfl, hB_⟩
                          obtain rfl := hB_.symm
                          refine ⟨(sc_own (sc_own (sc_own (sc_cons (cells_osl (E := 5) (sz := 1) (a := a1) (c := k1) (n := (rdO fr' pg t.pa t.bs.length).length)) (sc_cons (cells_osl (E := 5) (sz := 1) (a := a2) (c := k2) (n := (rdO fr' pg t.pa t.bs.length).length)) sc_end))))), fun hS => ?_⟩
                          refine d_one 42 (by kernel_rfl) rfl rfl (d_call3 Try.call53 rfl (rvOwn_spec W0 _ qv qs qm d' fr' pg hP t.pa hpa t.w)) rfl ?_; clear hS
                          rintro _ B_ ⟨rfl, hB_⟩
                          obtain rfl := hB_.symm
                          refine ⟨(sc_own (sc_own (sc_own (sc_cons (cells_osl (E := 5) (sz := 1) (a := a1) (c := k1) (n := (rdO fr' pg t.pa t.bs.length).length)) (sc_cons (cells_osl (E := 5) (sz := 1) (a := a2) (c := k2) (n := (rdO fr' pg t.pa t.bs.length).length)) sc_end))))), fun hS => ?_⟩
                          refine d_take 43 rfl rfl (by kernel_rfl) (by kernel_rfl) (by kernel_rfl) rfl hS (v_neq_bool Try.underlying4 rfl rfl) ?_
                          refine d_take 44 rfl rfl (by kernel_rfl) (by kernel_rfl) (by kernel_rfl) rfl hS (v_pick_f rfl rfl) ?_
                          refine d_done (by kernel_rfl) ?_; clear hS
                          refine n_then ?_
                          refine x_if rfl ?_ ?_
                          · intro c23
                            exact absurd c23 (by simp)
                          · intro c23
                            refine x_skip ?_
                            refine n_block ?_
                            refine n_then ?_
                            refine x_region ?_
                            refine s_val rfl (v_move rfl) ?_
                            refine s_val rfl (v_add rfl rfl (by first | exact w64 (by omega) | rfl)) ?_
                            refine s_val rfl (v_assign rfl) ?_
                            refine x_nil ?_
                            refine n_then ?_
                            refine inv_intro (i + 1, fr', d') ?_ ?_ ?_ ?_
                            · exact ⟨by omega, hF', hd'⟩
                            · omega
                            · repeat (first | exact sub_nil | refine sub_cons rfl ?_)
                            · exact inferInstance
          · intro c5
            refine x_exit ?_
            refine e_then ?_
            refine e_then ?_
            refine e_block ?_
            refine n_then ?_
            refine x_seq ?_
            refine x_region ?_
            refine s_val rfl (v_move rfl) ?_
            refine s_do rfl (d_call1 Try.call43 rfl (viDirty_spec W0 _ pv ps pm d hd)) ?_
            rintro _ B_ ⟨a1, c1, rfl, hB_⟩
            obtain rfl := hB_.symm
            refine s_val rfl (v_move rfl) ?_
            refine s_do rfl (d_call1 Try.call48 rfl (rvDirty_spec W0 _ qv qs qm d)) ?_
            rintro _ B_ ⟨a2, c2, rfl, hB_⟩
            obtain rfl := hB_.symm
            refine s_do rfl (d_call2 Try.call47 rfl (ints16_spec W0 _ a1 a2 c1 c2 _ _ (Nat.lt_of_le_of_lt (drL_len d 12) (by decide)) (Nat.lt_of_le_of_lt (drL_len d 12) (by decide)))) ?_
            rintro _ B_ ⟨rfl, hB_⟩
            obtain rfl := hB_.symm
            refine s_val rfl (v_move rfl) ?_
            refine s_and rfl rfl rfl ?_ ?_
            · intro g25_6
              refine s_do rfl (d_call Try.call34 rfl (awake16_spec W0 _)) ?_
              rintro _ B_ ⟨rfl, hB_⟩
              obtain rfl := hB_.symm
              refine s_val rfl (v_pick_t rfl rfl) ?_
              refine s_val rfl (v_assign rfl) ?_
              refine x_nil ?_
              refine n_then ?_
              refine x_ret ?_
              refine x_done (.inl rfl) (.cons (r_tmp rfl) .nil) ?_
              exact ⟨_, ⟨rfl, rfl⟩, inferInstance⟩
            · intro g25_6
              exact absurd (by simp) g25_6
        · intro g5_5
          refine s_no rfl rfl rfl rfl ?_
          refine s_val rfl (v_pick_f rfl rfl) ?_
          refine x_nil ?_
          refine n_then ?_
          refine x_iff rfl ?_
          refine x_exit ?_
          refine e_then ?_
          refine e_then ?_
          refine e_block ?_
          refine n_then ?_
          refine x_seq ?_
          refine x_region ?_
          refine s_val rfl (v_move rfl) ?_
          refine s_do rfl (d_call1 Try.call43 rfl (viDirty_spec W0 _ pv ps pm d hd)) ?_
          rintro _ B_ ⟨a1, c1, rfl, hB_⟩
          obtain rfl := hB_.symm
          refine s_val rfl (v_move rfl) ?_
          refine s_do rfl (d_call1 Try.call48 rfl (rvDirty_spec W0 _ qv qs qm d)) ?_
          rintro _ B_ ⟨a2, c2, rfl, hB_⟩
          obtain rfl := hB_.symm
          refine s_do rfl (d_call2 Try.call47 rfl (ints16_spec W0 _ a1 a2 c1 c2 _ _ (Nat.lt_of_le_of_lt (drL_len d 12) (by decide)) (Nat.lt_of_le_of_lt (drL_len d 12) (by decide)))) ?_
          rintro _ B_ ⟨rfl, hB_⟩
          obtain rfl := hB_.symm
          refine s_val rfl (v_move rfl) ?_
          refine s_and rfl rfl rfl ?_ ?_
          · intro g25_6
            refine s_do rfl (d_call Try.call34 rfl (awake16_spec W0 _)) ?_
            rintro _ B_ ⟨rfl, hB_⟩
            obtain rfl := hB_.symm
            refine s_val rfl (v_pick_t rfl rfl) ?_
            refine s_val rfl (v_assign rfl) ?_
            refine x_nil ?_
            refine n_then ?_
            refine x_ret ?_
            refine x_done (.inl rfl) (.cons (r_tmp rfl) .nil) ?_
            exact ⟨_, ⟨rfl, rfl⟩, inferInstance⟩
          · intro g25_6
            exact absurd (by simp) g25_6
end Go.Proofs.Ytpmacnfjafpdcaa
