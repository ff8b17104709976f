/-
  Layer 18 (stlb): the walk of StlbPlays.
-/
import Derived.Test.YtechkfopkpkigaaRefStlbB
import Derived.Test.YtechkfopkpkigaaBytes
namespace Go.Proofs.Ytechkfopkpkigaa
open Go.RowKit
set_option linter.unusedSimpArgs false
set_option linter.unusedVariables false
set_option maxRecDepth 20000

theorem same18_sla (W0 : World) (R : List HP) (a1 a2 : Option Addr) (k1 k2 : Nat) (l : List It) (h1 : SlA (OwnP W0 R) a1 5 keptV l) (h2 : SlA (OwnP W0 R) a2 5 keptV l) (hl : l.length ≤ 1000) :
    Spec Try.prog W0 44 [.slice a1 l.length k1, .slice a2 l.length k2] R (fun v B => v = .bool true ∧ B = R) := by
  refine spec_body Try.func44 Try.ntmps44 rfl rfl ?_
  refine x_seq ?_
  refine x_region ?_
  refine s_val rfl (v_assign rfl) ?_
  refine x_nil ?_
  refine n_then ?_
  refine x_seq ?_
  refine x_seq ?_
  refine x_region ?_
  refine s_val rfl (v_move rfl) ?_
  refine s_val rfl (v_len_slice Try.underlying76 rfl) ?_
  refine s_val rfl (v_move rfl) ?_
  refine s_val rfl (v_len_slice Try.underlying76 rfl) ?_
  refine s_val rfl (v_neq rfl rfl) ?_
  refine x_nil ?_
  refine n_then ?_
  refine x_if rfl ?_ ?_
  · intro c1
    omega
  · intro c1
    refine x_skip ?_
    refine n_then ?_
    refine x_seq ?_
    refine x_seq ?_
    refine x_region ?_
    refine s_val rfl (v_assign rfl) ?_
    refine x_nil ?_
    refine n_then ?_
    refine x_block ?_
    refine x_loop (fun i : Nat => i ≤ l.length) (fun i => [(0, .slice a1 l.length k1), (1, .slice a2 l.length k2), (5, .int .i64 i)]) (fun i => R) (fun i => l.length - i) 0 ?_ ?_ ?_ ?_
    · exact Nat.zero_le _
    · repeat (first | exact sub_nil | refine sub_cons rfl ?_)
    · exact inferInstance
    · intro i hi
      refine x_seq ?_
      refine x_seq ?_
      refine x_region ?_
      refine s_val rfl (v_move rfl) ?_
      refine s_val rfl (v_move rfl) ?_
      refine s_val rfl (v_len_slice Try.underlying76 rfl) ?_
      refine s_val rfl (v_lss rfl rfl) ?_
      refine s_val rfl (v_move rfl) ?_
      refine s_and rfl rfl rfl ?_ ?_
      · intro g4_5
        refine s_val rfl (v_move rfl) ?_
        refine s_yes rfl rfl ?_
        refine s_val rfl (v_move rfl) ?_
        refine s_yes rfl rfl ?_
        refine s_val rfl (v_len_slice Try.underlying76 rfl) ?_
        refine s_yes rfl rfl ?_
        refine s_val rfl (v_lss rfl rfl) ?_
        refine s_val rfl (v_pick_t rfl rfl) ?_
        refine x_nil ?_
        refine n_then ?_
        refine x_if rfl ?_ ?_
        · intro c4
          refine x_skip ?_
          refine n_then ?_
          refine x_seq ?_
          refine x_block ?_
          refine x_seq ?_
          have hi1 : i < l.length := by omega
          obtain ⟨ga, oa, rfl, hc1⟩ := h1.at_ hi1
          obtain ⟨gb, ob, rfl, hc2⟩ := h2.at_ hi1
          refine x_draw [(ga, oa + i * 5, [.int .i64 l[i].kr, .int .i64 l[i].kp, .int .i64 l[i].ep, .int .i64 l[i].ef, .int .i64 l[i].er]), (gb, ob + i * 5, [.int .i64 l[i].kr, .int .i64 l[i].kp, .int .i64 l[i].ep, .int .i64 l[i].ef, .int .i64 l[i].er])] 9 mixed rfl (sc_cons hc1 (sc_cons hc2 sc_end)) (fun hS => ?_)
          refine d_take 0 rfl rfl (by kernel_rfl) (by kernel_rfl) (by kernel_rfl) rfl hS (v_move rfl) ?_
          refine d_take 1 rfl rfl (by kernel_rfl) (by kernel_rfl) (by kernel_rfl) rfl hS (v_move rfl) ?_
          refine d_take 2 rfl rfl (by kernel_rfl) (by kernel_rfl) (by kernel_rfl) rfl hS (v_idx Try.underlying76 Try.sizeOf80 rfl rfl rfl hi1 (by first | exact Nat.zero_add _ | rfl)) ?_
          refine d_take 3 rfl rfl (by kernel_rfl) (by kernel_rfl) (by kernel_rfl) rfl hS (v_loadAgg Try.isAgg80 Try.sizeOf80 rfl (by first | exact cells_sc (k := 0) rfl | exact cells_sc (k := 1) rfl) rfl) ?_
          refine d_take 4 rfl rfl (by kernel_rfl) (by kernel_rfl) (by kernel_rfl) rfl hS (v_move rfl) ?_
          refine d_take 5 rfl rfl (by kernel_rfl) (by kernel_rfl) (by kernel_rfl) rfl hS (v_move rfl) ?_
          refine d_take 6 rfl rfl (by kernel_rfl) (by kernel_rfl) (by kernel_rfl) rfl hS (v_idx Try.underlying76 Try.sizeOf80 rfl rfl rfl hi1 (by first | exact Nat.zero_add _ | rfl)) ?_
          refine d_take 7 rfl rfl (by kernel_rfl) (by kernel_rfl) (by kernel_rfl) rfl hS (v_loadAgg Try.isAgg80 Try.sizeOf80 rfl (by first | exact cells_sc (k := 0) rfl | exact cells_sc (k := 1) rfl) rfl) ?_
          refine d_take 8 rfl rfl (by kernel_rfl) (by kernel_rfl) (by kernel_rfl) rfl hS (v_neq_agg Try.eqGuardType80 rfl rfl (q_struct Try.underlying80 Try.stoodInHeld80 (qf_gen rfl (part_agg Try.isAgg73 Try.sizeOf73 TakeL.eq) (part_agg Try.isAgg73 Try.sizeOf73 TakeL.eq) (q_struct Try.underlying73 Try.stoodInHeld73 (qf_scal rfl Try.isAgg3 rfl rfl (q_int Try.underlying3) (qf_scal rfl Try.isAgg3 rfl rfl (q_int Try.underlying3) qf_nil))) (qf_gen rfl (part_agg Try.isAgg75 Try.sizeOf75 TakeL.eq) (part_agg Try.isAgg75 Try.sizeOf75 TakeL.eq) (q_struct Try.underlying75 Try.stoodInHeld75 (qf_scal rfl Try.isAgg3 rfl rfl (q_int Try.underlying3) (qf_scal rfl Try.isAgg3 rfl rfl (q_int Try.underlying3) (qf_scal rfl Try.isAgg3 rfl rfl (q_int Try.underlying3) qf_nil)))) qf_nil)))) ?_
          refine d_done (by kernel_rfl) ?_; clear hS
          refine n_then ?_
          refine x_if rfl ?_ ?_
          · intro c6
            exact absurd c6 (by simp)
          · intro c6
            refine x_skip ?_
            refine n_block ?_
            refine n_then ?_
            refine x_region ?_
            refine s_val rfl (v_move rfl) ?_
            refine s_val rfl (v_add rfl rfl (by first | exact w64 (by omega) | rfl)) ?_
            refine s_val rfl (v_assign rfl) ?_
            refine x_nil ?_
            refine n_then ?_
            refine inv_intro (i + 1) ?_ ?_ ?_ ?_
            · omega
            · omega
            · repeat (first | exact sub_nil | refine sub_cons rfl ?_)
            · exact inferInstance
        · intro c4
          refine x_exit ?_
          refine e_then ?_
          refine e_then ?_
          refine e_block ?_
          refine n_then ?_
          refine x_seq ?_
          refine x_region ?_
          refine s_val rfl (v_assign rfl) ?_
          refine x_nil ?_
          refine n_then ?_
          refine x_ret ?_
          refine x_done (.inl rfl) (.cons (r_tmp rfl) .nil) ?_
          exact ⟨_, ⟨rfl, rfl⟩, inferInstance⟩
      · intro g4_5
        refine s_no rfl rfl rfl rfl ?_
        refine s_no rfl rfl rfl rfl ?_
        refine s_no rfl rfl rfl rfl ?_
        refine s_val rfl (v_pick_f rfl rfl) ?_
        refine x_nil ?_
        refine n_then ?_
        refine x_iff rfl ?_
        refine x_exit ?_
        refine e_then ?_
        refine e_then ?_
        refine e_block ?_
        refine n_then ?_
        refine x_seq ?_
        refine x_region ?_
        refine s_val rfl (v_assign rfl) ?_
        refine x_nil ?_
        refine n_then ?_
        refine x_ret ?_
        refine x_done (.inl rfl) (.cons (r_tmp rfl) .nil) ?_
        exact ⟨_, ⟨rfl, rfl⟩, inferInstance⟩
theorem ent_rtN {W0 : World} {A R B : List HP} {b : Nat} {rm : Int} [h1 : Tk pt b A (cob [.slice none 0 0, .int .i64 rm] 96) R] [k : Ent R B] : Ent A (rtH W0 b ([], rm) :: B) :=
  (Ent.ofPerm h1.perm).trans ((Ent.cons (ent_osl_nil (E := 80) (sz := 5) (B := B) (k := k))).trans (ent_rt (L := []) rfl rfl))
theorem Er.getL {now : Nat} {k : Key} {L : List It} (h : Er L) : Er (getL now k L) := by
  unfold Go.Proofs.Ytechkfopkpkigaa.getL
  split
  · exact h
  · rename_i y hy
    exact h.putBack (h y (find_mem hy).1)
theorem Er.sub {L L' : List It} (h : Er L) (hs : ∀ x ∈ L', x ∈ L) : Er L' := fun x hx => h x (hs x hx)
theorem nrN_perm {its L : List It} {page : Int} (h : its.Perm L) : nrN page its = nrN page L := (h.filter _).length_eq
theorem StlbPlays_no (W0 : World) (room : Int) (h : ¬ (0 ≤ room ∧ room ≤ 4)) (s1 s2 s3 : Value) :
    Spec Try.prog W0 8 [.int .i64 room, s1, s2, s3] [] (fun v B => v = .bool true ∧ B = []) := by
  refine spec_body Try.func8 Try.ntmps8 rfl rfl ?_
  refine x_seq ?_
  refine x_region ?_
  refine s_val rfl (v_assign rfl) ?_
  refine x_nil ?_
  refine n_then ?_
  refine x_seq ?_
  refine x_region ?_
  refine s_val rfl (v_move rfl) ?_
  refine s_do rfl (d_call Try.call28 rfl (New_no W0 _ room h)) ?_
  rintro _ B_ ⟨rfl, hB_⟩
  obtain rfl := hB_.symm
  refine s_val rfl (v_move rfl) ?_
  refine s_val rfl (v_extract rfl rfl) ?_
  refine s_val rfl (v_extract rfl rfl) ?_
  refine s_val rfl (v_assign rfl) ?_
  refine s_val rfl (v_assign rfl) ?_
  refine x_nil ?_
  refine n_then ?_
  refine x_seq ?_
  refine x_region ?_
  refine s_val rfl (v_move rfl) ?_
  refine s_do rfl (d_call Try.call38 rfl (rtNew_no W0 _ room h)) ?_
  rintro _ B_ ⟨rfl, hB_⟩
  obtain rfl := hB_.symm
  refine s_val rfl (v_move rfl) ?_
  refine s_val rfl (v_extract rfl rfl) ?_
  refine s_val rfl (v_extract rfl rfl) ?_
  refine s_val rfl (v_assign rfl) ?_
  refine s_val rfl (v_assign rfl) ?_
  refine x_nil ?_
  refine n_then ?_
  refine x_seq ?_
  refine x_seq ?_
  refine x_region ?_
  refine s_val rfl (v_move rfl) ?_
  refine s_val rfl (v_move rfl) ?_
  refine s_val rfl (v_neq rfl rfl) ?_
  refine s_val rfl (v_move rfl) ?_
  refine s_or rfl rfl rfl ?_ ?_
  · intro g3_4
    first | exact absurd rfl g3_4 | exact absurd g3_4 (by simp)
  · intro g3_4
    refine s_val rfl (v_move rfl) ?_
    refine s_yes rfl rfl ?_
    refine s_val rfl (v_eql_ptr_nil Try.underlying68 rfl rfl) ?_
    refine s_yes rfl rfl ?_
    refine s_val rfl (v_move rfl) ?_
    refine s_yes rfl rfl ?_
    refine s_val rfl (v_eql_ptr_nil Try.underlying92 rfl rfl) ?_
    refine s_yes rfl rfl ?_
    refine s_val rfl (v_neq_bool Try.underlying4 rfl rfl) ?_
    refine s_val rfl (v_pick_f rfl rfl) ?_
    refine x_nil ?_
    refine n_then ?_
    refine x_if rfl ?_ ?_
    · intro c3
      first | exact absurd rfl c3 | exact absurd c3 (by simp)
    · intro c3
      refine x_skip ?_
      refine n_then ?_
      refine x_seq ?_
      refine x_seq ?_
      refine x_region ?_
      refine s_val rfl (v_move rfl) ?_
      refine s_val rfl (v_eql_ptr_nil Try.underlying92 rfl rfl) ?_
      refine x_nil ?_
      refine n_then ?_
      refine x_if rfl ?_ ?_
      · intro c5
        refine x_seq ?_
        refine x_region ?_
        refine s_do rfl (d_call Try.call34 rfl (awake18_spec W0 _)) ?_
        rintro _ B_ ⟨rfl, hB_⟩
        obtain rfl := hB_.symm
        refine s_val rfl (v_assign rfl) ?_
        refine x_nil ?_
        refine n_then ?_
        refine x_ret ?_
        refine r_then ?_
        refine x_done (.inl rfl) (.cons (r_tmp rfl) .nil) ?_
        exact ⟨_, ⟨rfl, rfl⟩, inferInstance⟩
      · intro c5
        exact absurd rfl c5
theorem StlbPlays_ok (W0 : World) (n : Nat) (hn : n ≤ 4) (ak : Option Addr) (ck : Nat) (kinds : List Nat) (hkinds : SlB W0 ak 1 (fun x => [bV x]) kinds) (hkb : By kinds) (a : Option Addr) (c : Nat) (ks : List Key) (hks : SlB W0 a 2 keyV ks) (a' : Option Addr) (c' : Nat) (es : List Ent3) (hes : SlB W0 a' 3 entV es) (her : ∀ e ∈ es, i64 e.2.2) :
    Spec Try.prog W0 8 [.int .i64 n, .slice ak kinds.length ck, .slice a ks.length c, .slice a' es.length c'] [] (fun v B => v = .bool true ∧ B = []) := by
  refine spec_body Try.func8 Try.ntmps8 rfl rfl ?_
  refine x_seq ?_
  refine x_region ?_
  refine s_val rfl (v_assign rfl) ?_
  refine x_nil ?_
  refine n_then ?_
  refine x_seq ?_
  refine x_region ?_
  refine s_val rfl (v_move rfl) ?_
  refine s_do rfl (d_call Try.call28 rfl (New_spec W0 _ n hn)) ?_
  rintro _ B_ ⟨b, rfl, hB_⟩
  obtain rfl := hB_.symm
  refine s_val rfl (v_move rfl) ?_
  refine s_val rfl (v_extract rfl rfl) ?_
  refine s_val rfl (v_extract rfl rfl) ?_
  refine s_val rfl (v_assign rfl) ?_
  refine s_val rfl (v_assign rfl) ?_
  refine x_nil ?_
  refine n_then ?_
  refine x_seq ?_
  refine x_region ?_
  refine s_val rfl (v_move rfl) ?_
  refine s_do rfl (d_call Try.call38 rfl (rtNew_ok W0 _ (n : Int) (by omega))) ?_
  rintro _ B_ ⟨bt, rfl, hB_⟩
  obtain rfl := hB_.symm
  refine s_val rfl (v_move rfl) ?_
  refine s_val rfl (v_extract rfl rfl) ?_
  refine s_val rfl (v_extract rfl rfl) ?_
  refine s_val rfl (v_assign rfl) ?_
  refine s_val rfl (v_assign rfl) ?_
  refine x_nil ?_
  refine n_then ?_
  refine x_seq ?_
  refine x_seq ?_
  refine x_region ?_
  refine s_val rfl (v_move rfl) ?_
  refine s_val rfl (v_move rfl) ?_
  refine s_val rfl (v_neq rfl rfl) ?_
  refine s_val rfl (v_move rfl) ?_
  refine s_or rfl rfl rfl ?_ ?_
  · intro g3_4
    first | exact absurd rfl g3_4 | exact absurd g3_4 (by simp)
  · intro g3_4
    refine s_val rfl (v_move rfl) ?_
    refine s_yes rfl rfl ?_
    refine s_val rfl (v_eql_ptr_nil Try.underlying68 rfl rfl) ?_
    refine s_yes rfl rfl ?_
    refine s_val rfl (v_move rfl) ?_
    refine s_yes rfl rfl ?_
    refine s_val rfl (v_eql_ptr_nil Try.underlying92 rfl rfl) ?_
    refine s_yes rfl rfl ?_
    refine s_val rfl (v_neq_bool Try.underlying4 rfl rfl) ?_
    refine s_val rfl (v_pick_f rfl rfl) ?_
    refine x_nil ?_
    refine n_then ?_
    refine x_if rfl ?_ ?_
    · intro c3
      first | exact absurd rfl c3 | exact absurd c3 (by simp)
    · intro c3
      refine x_skip ?_
      refine n_then ?_
      refine x_seq ?_
      refine x_seq ?_
      refine x_region ?_
      refine s_val rfl (v_move rfl) ?_
      refine s_val rfl (v_eql_ptr_nil Try.underlying92 rfl rfl) ?_
      refine x_nil ?_
      refine n_then ?_
      refine x_if rfl ?_ ?_
      · intro c5
        cases c5
      · intro c5
        refine x_skip ?_
        refine n_then ?_
        refine x_cut (fun _ : Unit => True) (fun _ => []) (fun _ => []) ?_ ?_
        · skip
          refine x_seq ?_
          refine x_region ?_
          refine s_val rfl (v_assign rfl) ?_
          refine x_nil ?_
          refine n_then ?_
          refine x_block ?_
          refine x_loop (fun X : List It × List It × Nat × Nat => Rep X.1 X.2.2.1 X.2.1 ∧ X.2.1.length ≤ n ∧ X.2.2.1 ≤ X.2.2.2 ∧ X.2.2.2 ≤ 100 ∧ Er X.2.1) (fun X => [(1, .slice ak kinds.length ck), (2, .slice a ks.length c), (3, .slice a' es.length c'), (9, .pointer (some ⟨b, 0, none⟩)), (11, .pointer (some ⟨bt, 0, none⟩)), (13, .int .i64 X.2.2.2)]) (fun X => rowH b (X.1, tlV n X.2.2.1) :: rtH W0 bt (X.2.1, (n : Int)) :: []) (fun X => 100 - X.2.2.2) ([], [], 0, 0) ?_ ?_ ?_ ?_
          · exact ⟨Rep.nil, Nat.zero_le _, Nat.zero_le _, Nat.zero_le _, Er.nil⟩
          · repeat (first | exact sub_nil | refine sub_cons rfl ?_)
          · exact inferInstance
          · intro ⟨its, L, now, i⟩ ⟨hR, hL, hnow, hi, hE⟩
            dsimp only at hR hL hnow hi hE ⊢
            have hlen := hR.length
            refine x_seq ?_
            refine x_seq ?_
            refine x_region ?_
            refine s_val rfl (v_move rfl) ?_
            refine s_val rfl (v_move rfl) ?_
            refine s_val rfl (v_len_slice Try.underlying22 rfl) ?_
            refine s_val rfl (v_lss rfl rfl) ?_
            refine s_val rfl (v_move rfl) ?_
            refine s_and rfl rfl rfl ?_ ?_
            · intro g8_5
              refine s_val rfl (v_move rfl) ?_
              refine s_yes rfl rfl ?_
              refine s_val rfl (v_move rfl) ?_
              refine s_yes rfl rfl ?_
              refine s_val rfl (v_len_slice Try.underlying66 rfl) ?_
              refine s_yes rfl rfl ?_
              refine s_val rfl (v_lss rfl rfl) ?_
              refine s_val rfl (v_pick_t rfl rfl) ?_
              refine s_val rfl (v_move rfl) ?_
              refine s_and rfl rfl rfl ?_ ?_
              · intro g8_11
                refine s_val rfl (v_move rfl) ?_
                refine s_yes rfl rfl ?_
                refine s_val rfl (v_move rfl) ?_
                refine s_yes rfl rfl ?_
                refine s_val rfl (v_len_slice Try.underlying67 rfl) ?_
                refine s_yes rfl rfl ?_
                refine s_val rfl (v_lss rfl rfl) ?_
                refine s_val rfl (v_pick_t rfl rfl) ?_
                refine s_val rfl (v_move rfl) ?_
                refine s_and rfl rfl rfl ?_ ?_
                · intro g8_17
                  refine s_val rfl (v_move rfl) ?_
                  refine s_yes rfl rfl ?_
                  refine s_val rfl (v_lss rfl rfl) ?_
                  refine s_val rfl (v_pick_t rfl rfl) ?_
                  refine x_nil ?_
                  refine n_then ?_
                  refine x_if rfl ?_ ?_
                  · intro c8
                    obtain ⟨kd, hkd⟩ : ∃ kd, kinds[i]? = some kd := ⟨kinds[i], by simp⟩
                    obtain ⟨bd, od, rfl, hcd⟩ := hkinds i kd hkd
                    have hkd8 : kd < 256 := hkb kd (List.mem_of_getElem? hkd)
                    obtain ⟨k, hk⟩ : ∃ k, ks[i]? = some k := ⟨ks[i], by simp⟩
                    obtain ⟨bk, ok, rfl, hck⟩ := hks i k hk
                    obtain ⟨e, he⟩ : ∃ e, es[i]? = some e := ⟨es[i], by simp⟩
                    obtain ⟨be, oe, rfl, hce⟩ := hes i e he
                    have hee := her e (List.mem_of_getElem? he)
                    refine x_skip ?_
                    refine n_then ?_
                    refine x_seq ?_
                    refine x_block ?_
                    refine x_cut (fun Z : List It × List It × Nat => Rep Z.1 Z.2.2 Z.2.1 ∧ Z.2.1.length ≤ n ∧ Z.2.2 ≤ i + 1 ∧ Er Z.2.1) (fun Z => [(1, .slice (some ⟨bd, od, none⟩) kinds.length ck), (2, .slice (some ⟨bk, ok, none⟩) ks.length c), (3, .slice (some ⟨be, oe, none⟩) es.length c'), (9, .pointer (some ⟨b, 0, none⟩)), (11, .pointer (some ⟨bt, 0, none⟩)), (13, .int .i64 i)]) (fun Z => rowH b (Z.1, tlV n Z.2.2) :: rtH W0 bt (Z.2.1, (n : Int)) :: []) ?_ ?_
                    · skip
                      refine x_seq ?_
                      refine x_region ?_
                      refine s_val rfl (v_move rfl) ?_
                      refine s_val rfl (v_move rfl) ?_
                      refine s_val rfl (v_idx Try.underlying22 Try.sizeOf5 rfl rfl rfl (by omega) (by first | exact Nat.zero_add _ | rfl)) ?_
                      refine s_val rfl (v_load Try.isAgg5 rfl (hcd _ 0 _ rfl)) ?_
                      refine s_val rfl (v_rem rfl rfl (by decide) (tmodN kd 8)) ?_
                      refine x_nil ?_
                      refine n_then ?_
                      refine x_block ?_
                      refine x_seq ?_
                      refine x_region ?_
                      refine s_val rfl (v_eql rfl rfl) ?_
                      refine s_val rfl (v_assign rfl) ?_
                      refine x_nil ?_
                      refine n_then ?_
                      refine x_if rfl ?_ ?_
                      · intro c14
                        refine x_seq ?_
                        refine x_region ?_
                        refine s_val rfl (v_move rfl) ?_
                        refine s_val rfl (v_move rfl) ?_
                        refine s_val rfl (v_move rfl) ?_
                        refine s_val rfl (v_idx Try.underlying66 Try.sizeOf73 rfl rfl rfl (by omega) (by first | exact Nat.zero_add _ | rfl)) ?_
                        refine s_val rfl (v_loadAgg Try.isAgg73 Try.sizeOf73 rfl (hck _) rfl) ?_
                        refine s_do rfl (d_call1 Try.call35 rfl (Get_spec18 W0 _ b its n now L k hR hL hn (by omega))) ?_
                        rintro _ B_ ⟨rfl, its2, now2, hn2, hB_, hR2⟩
                        obtain rfl := hB_.symm
                        obtain ⟨ee, hv, _⟩ := getV_eq k L
                        rw [hv]
                        refine s_val rfl (v_move rfl) ?_
                        refine s_val rfl (v_extract rfl rfl) ?_
                        refine s_val rfl (v_extract rfl rfl) ?_
                        refine s_do rfl (d_allocA Try.zeroValue75) ?_
                        rintro _ _ ⟨be1, rfl, rfl⟩
                        refine s_do0 (d_storeAll Try.sizeOf75 rfl rfl rfl rfl rfl) ?_
                        rintro _ _ rfl
                        refine s_val rfl (v_assign rfl) ?_
                        refine x_nil ?_
                        refine n_then ?_
                        refine x_seq ?_
                        refine x_region ?_
                        refine s_val rfl (v_move rfl) ?_
                        refine s_val rfl (v_move rfl) ?_
                        refine s_val rfl (v_move rfl) ?_
                        refine s_val rfl (v_idx Try.underlying66 Try.sizeOf73 rfl rfl rfl (by omega) (by first | exact Nat.zero_add _ | rfl)) ?_
                        refine s_val rfl (v_loadAgg Try.isAgg73 Try.sizeOf73 rfl (hck _) rfl) ?_
                        refine s_do rfl (d_call1 Try.call39 rfl (rtGet_spec W0 _ bt L (n : Int) now k (by omega))) ?_
                        rintro _ B_ ⟨rfl, hB_⟩
                        obtain rfl := hB_.symm
                        rw [hv]
                        refine s_val rfl (v_move rfl) ?_
                        refine s_val rfl (v_extract rfl rfl) ?_
                        refine s_val rfl (v_extract rfl rfl) ?_
                        refine s_do rfl (d_allocA Try.zeroValue75) ?_
                        rintro _ _ ⟨be2, rfl, rfl⟩
                        refine s_do0 (d_storeAll Try.sizeOf75 rfl rfl rfl rfl rfl) ?_
                        rintro _ _ rfl
                        refine s_val rfl (v_assign rfl) ?_
                        refine x_nil ?_
                        refine n_then ?_
                        refine x_seq ?_
                        refine x_region ?_
                        refine s_val rfl (v_loadAll Try.isAgg75 Try.sizeOf75 rfl rfl) ?_
                        refine s_val rfl (v_loadAll Try.isAgg75 Try.sizeOf75 rfl rfl) ?_
                        refine s_val rfl (v_neq_agg Try.eqGuardType75 rfl rfl (q_struct Try.underlying75 Try.stoodInHeld75 (qf_scal rfl Try.isAgg3 rfl rfl (q_int Try.underlying3) (qf_scal rfl Try.isAgg3 rfl rfl (q_int Try.underlying3) (qf_scal rfl Try.isAgg3 rfl rfl (q_int Try.underlying3) qf_nil))))) ?_
                        refine s_val rfl (v_move rfl) ?_
                        refine s_or rfl rfl rfl ?_ ?_
                        · intro g17_4
                          first | exact absurd rfl g17_4 | exact absurd g17_4 (by simp)
                        · intro g17_4
                          refine s_val rfl (v_move rfl) ?_
                          refine s_yes rfl rfl ?_
                          refine s_val rfl (v_move rfl) ?_
                          refine s_yes rfl rfl ?_
                          refine s_val rfl (v_neq_bool Try.underlying4 rfl rfl) ?_
                          refine s_val rfl (v_pick_f rfl rfl) ?_
                          refine x_nil ?_
                          refine n_then ?_
                          refine x_if rfl ?_ ?_
                          · intro c17
                            first | exact absurd rfl c17 | exact absurd c17 (by simp)
                          · intro c17
                            refine x_skip ?_
                            refine n_block ?_
                            refine n_then ?_
                            refine mid_intro (its2, getL now k L, now2) ?_ ?_ ?_
                            · exact ⟨hR2, Nat.le_trans getL_len hL, by show now2 ≤ i + 1; omega, hE.getL⟩
                            · repeat (first | exact sub_nil | refine sub_cons rfl ?_)
                            · exact inferInstance
                      · intro c14
                        refine x_seq ?_
                        refine x_region ?_
                        refine s_val rfl (v_eql rfl rfl) ?_
                        refine s_val rfl (v_assign rfl) ?_
                        refine x_nil ?_
                        refine n_then ?_
                        refine x_if rfl ?_ ?_
                        · intro c19
                          refine x_seq ?_
                          refine x_draw [(bk, ok + i * 2, keyV k)] 13 mixed rfl (sc_cons (hck _) sc_end) (fun hS => ?_)
                          refine d_take 0 rfl rfl (by kernel_rfl) (by kernel_rfl) (by kernel_rfl) rfl hS (v_move rfl) ?_
                          refine d_take 1 rfl rfl (by kernel_rfl) (by kernel_rfl) (by kernel_rfl) rfl hS (v_move rfl) ?_
                          refine d_take 2 rfl rfl (by kernel_rfl) (by kernel_rfl) (by kernel_rfl) rfl hS (v_move rfl) ?_
                          refine d_take 3 rfl rfl (by kernel_rfl) (by kernel_rfl) (by kernel_rfl) rfl hS (v_idx Try.underlying66 Try.sizeOf73 rfl rfl rfl (by omega) (by first | exact Nat.zero_add _ | rfl)) ?_
                          refine d_take 4 rfl rfl (by kernel_rfl) (by kernel_rfl) (by kernel_rfl) rfl hS (v_loadAgg Try.isAgg73 Try.sizeOf73 rfl (cells_sc (k := 0) rfl) rfl) ?_
                          refine d_take 6 rfl rfl (by kernel_rfl) (by kernel_rfl) (by kernel_rfl) rfl hS (v_move rfl) ?_
                          refine d_take 7 rfl rfl (by kernel_rfl) (by kernel_rfl) (by kernel_rfl) rfl hS (v_move rfl) ?_
                          refine d_take 8 rfl rfl (by kernel_rfl) (by kernel_rfl) (by kernel_rfl) rfl hS (v_move rfl) ?_
                          refine d_take 9 rfl rfl (by kernel_rfl) (by kernel_rfl) (by kernel_rfl) rfl hS (v_idx Try.underlying66 Try.sizeOf73 rfl rfl rfl (by omega) (by first | exact Nat.zero_add _ | rfl)) ?_
                          refine d_take 10 rfl rfl (by kernel_rfl) (by kernel_rfl) (by kernel_rfl) rfl hS (v_loadAgg Try.isAgg73 Try.sizeOf73 rfl (cells_sc (k := 0) rfl) rfl) ?_
                          refine d_one 5 (by kernel_rfl) rfl rfl (d_call1 Try.call36 rfl (Drop_spec18 W0 _ b its _ now L k hR (by omega) _)) rfl ?_; clear hS
                          rintro _ B_ ⟨rfl, its2, hB_, hR2⟩
                          obtain rfl := hB_.symm
                          refine ⟨(sc_cons (hck _) sc_end), fun hS => ?_⟩
                          refine d_one 11 (by kernel_rfl) rfl rfl (d_call1 Try.call40 rfl (rtDrop_spec W0 _ bt L (n : Int) k (by omega))) rfl ?_; clear hS
                          rintro _ B_ ⟨rfl, hB_⟩
                          obtain rfl := hB_.symm
                          refine ⟨(sc_cons (hck _) sc_end), fun hS => ?_⟩
                          refine d_take 12 rfl rfl (by kernel_rfl) (by kernel_rfl) (by kernel_rfl) rfl hS (v_neq_bool Try.underlying4 rfl rfl) ?_
                          refine d_done (by kernel_rfl) ?_; clear hS
                          refine n_then ?_
                          refine x_if rfl ?_ ?_
                          · intro c20
                            first | exact absurd rfl c20 | exact absurd c20 (by simp)
                          · intro c20
                            refine x_skip ?_
                            refine n_block ?_
                            refine n_then ?_
                            refine mid_intro (its2, without k L, now) ?_ ?_ ?_
                            · exact ⟨hR2, Nat.le_trans (without_le k L) hL, by show now ≤ i + 1; omega, hE.sub fun x hx => (mem_without.1 hx).1⟩
                            · repeat (first | exact sub_nil | refine sub_cons rfl ?_)
                            · exact inferInstance
                        · intro c19
                          refine x_seq ?_
                          refine x_region ?_
                          refine s_val rfl (v_eql rfl rfl) ?_
                          refine s_val rfl (v_assign rfl) ?_
                          refine x_nil ?_
                          refine n_then ?_
                          refine x_if rfl ?_ ?_
                          · intro c22
                            refine x_seq ?_
                            refine x_draw [(be, oe + i * 3, entV e)] 15 mixed rfl (sc_cons (hce _) sc_end) (fun hS => ?_)
                            refine d_take 0 rfl rfl (by kernel_rfl) (by kernel_rfl) (by kernel_rfl) rfl hS (v_move rfl) ?_
                            refine d_take 1 rfl rfl (by kernel_rfl) (by kernel_rfl) (by kernel_rfl) rfl hS (v_move rfl) ?_
                            refine d_take 2 rfl rfl (by kernel_rfl) (by kernel_rfl) (by kernel_rfl) rfl hS (v_move rfl) ?_
                            refine d_take 3 rfl rfl (by kernel_rfl) (by kernel_rfl) (by kernel_rfl) rfl hS (v_idx Try.underlying67 Try.sizeOf75 rfl rfl rfl (by omega) (by first | exact Nat.zero_add _ | rfl)) ?_
                            refine d_take 4 rfl rfl (by kernel_rfl) (by kernel_rfl) (by kernel_rfl) rfl hS (v_fieldAddr rfl Try.underlying75 rfl Try.sizeOf3 rfl (by first | exact Nat.zero_add _ | rfl)) ?_
                            refine d_take 5 rfl rfl (by kernel_rfl) (by kernel_rfl) (by kernel_rfl) rfl hS (v_load Try.isAgg3 rfl (cell_sc (k := 0) (j := 0) rfl rfl)) ?_
                            refine d_take 7 rfl rfl (by kernel_rfl) (by kernel_rfl) (by kernel_rfl) rfl hS (v_move rfl) ?_
                            refine d_take 8 rfl rfl (by kernel_rfl) (by kernel_rfl) (by kernel_rfl) rfl hS (v_move rfl) ?_
                            refine d_take 9 rfl rfl (by kernel_rfl) (by kernel_rfl) (by kernel_rfl) rfl hS (v_move rfl) ?_
                            refine d_take 10 rfl rfl (by kernel_rfl) (by kernel_rfl) (by kernel_rfl) rfl hS (v_idx Try.underlying67 Try.sizeOf75 rfl rfl rfl (by omega) (by first | exact Nat.zero_add _ | rfl)) ?_
                            refine d_take 11 rfl rfl (by kernel_rfl) (by kernel_rfl) (by kernel_rfl) rfl hS (v_fieldAddr rfl Try.underlying75 rfl Try.sizeOf3 rfl (by first | exact Nat.zero_add _ | rfl)) ?_
                            refine d_take 12 rfl rfl (by kernel_rfl) (by kernel_rfl) (by kernel_rfl) rfl hS (v_load Try.isAgg3 rfl (cell_sc (k := 0) (j := 0) rfl rfl)) ?_
                            refine d_one 6 (by kernel_rfl) rfl rfl (d_call1 Try.call32 rfl (Gone_spec18 W0 _ b its _ _ now L e.1 hR (by omega))) rfl ?_; clear hS
                            rintro _ B_ ⟨rfl, its2, hB_, hR2⟩
                            obtain rfl := hB_.symm
                            refine ⟨(sc_cons (hce _) sc_end), fun hS => ?_⟩
                            refine d_one 13 (by kernel_rfl) rfl rfl (d_call1 Try.call41 rfl (rtGone_spec W0 _ bt L (n : Int) e.1 (by omega))) rfl ?_; clear hS
                            rintro _ B_ ⟨rfl, hB_⟩
                            obtain rfl := hB_.symm
                            refine ⟨(sc_cons (hce _) sc_end), fun hS => ?_⟩
                            refine d_take 14 rfl rfl (by kernel_rfl) (by kernel_rfl) (by kernel_rfl) rfl hS (v_neq rfl rfl) ?_
                            refine d_done (by kernel_rfl) ?_; clear hS
                            refine n_then ?_
                            refine x_if rfl ?_ ?_
                            · intro c23
                              exact absurd rfl c23
                            · intro c23
                              refine x_skip ?_
                              refine n_block ?_
                              refine n_then ?_
                              refine mid_intro (its2, keepL (onP e.1) L, now) ?_ ?_ ?_
                              · exact ⟨hR2, Nat.le_trans (keep_le _ L) hL, by show now ≤ i + 1; omega, hE.sub fun x hx => (List.mem_filter.1 hx).1⟩
                              · repeat (first | exact sub_nil | refine sub_cons rfl ?_)
                              · exact inferInstance
                          · intro c22
                            refine x_seq ?_
                            refine x_region ?_
                            refine s_val rfl (v_eql rfl rfl) ?_
                            refine s_val rfl (v_assign rfl) ?_
                            refine x_nil ?_
                            refine n_then ?_
                            refine x_if rfl ?_ ?_
                            · intro c25
                              refine x_seq ?_
                              refine x_draw [(be, oe + i * 3, entV e)] 15 mixed rfl (sc_cons (hce _) sc_end) (fun hS => ?_)
                              refine d_take 0 rfl rfl (by kernel_rfl) (by kernel_rfl) (by kernel_rfl) rfl hS (v_move rfl) ?_
                              refine d_take 1 rfl rfl (by kernel_rfl) (by kernel_rfl) (by kernel_rfl) rfl hS (v_move rfl) ?_
                              refine d_take 2 rfl rfl (by kernel_rfl) (by kernel_rfl) (by kernel_rfl) rfl hS (v_move rfl) ?_
                              refine d_take 3 rfl rfl (by kernel_rfl) (by kernel_rfl) (by kernel_rfl) rfl hS (v_idx Try.underlying67 Try.sizeOf75 rfl rfl rfl (by omega) (by first | exact Nat.zero_add _ | rfl)) ?_
                              refine d_take 4 rfl rfl (by kernel_rfl) (by kernel_rfl) (by kernel_rfl) rfl hS (v_fieldAddr rfl Try.underlying75 rfl Try.sizeOf3 rfl (by first | exact Nat.zero_add _ | rfl)) ?_
                              refine d_take 5 rfl rfl (by kernel_rfl) (by kernel_rfl) (by kernel_rfl) rfl hS (v_load Try.isAgg3 rfl (cell_sc (k := 0) (j := 0) rfl rfl)) ?_
                              refine d_take 7 rfl rfl (by kernel_rfl) (by kernel_rfl) (by kernel_rfl) rfl hS (v_move rfl) ?_
                              refine d_take 8 rfl rfl (by kernel_rfl) (by kernel_rfl) (by kernel_rfl) rfl hS (v_move rfl) ?_
                              refine d_take 9 rfl rfl (by kernel_rfl) (by kernel_rfl) (by kernel_rfl) rfl hS (v_move rfl) ?_
                              refine d_take 10 rfl rfl (by kernel_rfl) (by kernel_rfl) (by kernel_rfl) rfl hS (v_idx Try.underlying67 Try.sizeOf75 rfl rfl rfl (by omega) (by first | exact Nat.zero_add _ | rfl)) ?_
                              refine d_take 11 rfl rfl (by kernel_rfl) (by kernel_rfl) (by kernel_rfl) rfl hS (v_fieldAddr rfl Try.underlying75 rfl Try.sizeOf3 rfl (by first | exact Nat.zero_add _ | rfl)) ?_
                              refine d_take 12 rfl rfl (by kernel_rfl) (by kernel_rfl) (by kernel_rfl) rfl hS (v_load Try.isAgg3 rfl (cell_sc (k := 0) (j := 0) rfl rfl)) ?_
                              refine d_one 6 (by kernel_rfl) rfl rfl (d_call1 Try.call31 rfl (Narrow_spec18 W0 _ b its _ _ e.1 (by omega) (hE.perm hR.perm))) rfl ?_; clear hS
                              rintro _ B_ ⟨rfl, hB_⟩
                              obtain rfl := hB_.symm
                              rw [nrN_perm hR.perm]
                              refine ⟨(sc_cons (hce _) sc_end), fun hS => ?_⟩
                              refine d_one 13 (by kernel_rfl) rfl rfl (d_call1 Try.call42 rfl (rtNarrow_spec W0 _ bt L (n : Int) e.1 (by omega) hE)) rfl ?_; clear hS
                              rintro _ B_ ⟨rfl, hB_⟩
                              obtain rfl := hB_.symm
                              refine ⟨(sc_cons (hce _) sc_end), fun hS => ?_⟩
                              refine d_take 14 rfl rfl (by kernel_rfl) (by kernel_rfl) (by kernel_rfl) rfl hS (v_neq rfl rfl) ?_
                              refine d_done (by kernel_rfl) ?_; clear hS
                              refine n_then ?_
                              refine x_if rfl ?_ ?_
                              · intro c26
                                exact absurd rfl c26
                              · intro c26
                                refine x_skip ?_
                                refine n_block ?_
                                refine n_then ?_
                                refine mid_intro (its.map (narI e.1), L.map (narI e.1), now) ?_ ?_ ?_
                                · exact ⟨hR.nar e.1, by show (L.map (narI e.1)).length ≤ n; rw [List.length_map]; exact hL, by show now ≤ i + 1; omega, hE.nar e.1⟩
                                · repeat (first | exact sub_nil | refine sub_cons rfl ?_)
                                · exact inferInstance
                            · intro c25
                              refine x_seq ?_
                              refine x_region ?_
                              refine s_val rfl (v_eql rfl rfl) ?_
                              refine s_val rfl (v_assign rfl) ?_
                              refine x_nil ?_
                              refine n_then ?_
                              refine x_if rfl ?_ ?_
                              · intro c28
                                refine x_seq ?_
                                refine x_seq ?_
                                refine run_rt (W0 := W0) (b := bt) (L := L) (rm := (n : Int)) fun a0 c0 D hs0 => ?_
                                refine x_draw [(bt, 0, _)] 8 mixed rfl (sc_own sc_end) (fun hS => ?_)
                                refine d_take 0 rfl rfl (by kernel_rfl) (by kernel_rfl) (by kernel_rfl) rfl hS (v_move rfl) ?_
                                refine d_take 2 rfl rfl (by kernel_rfl) (by kernel_rfl) (by kernel_rfl) rfl hS (v_move rfl) ?_
                                refine d_take 3 rfl rfl (by kernel_rfl) (by kernel_rfl) (by kernel_rfl) rfl hS (v_nilCheck rfl) ?_
                                refine d_take 4 rfl rfl (by kernel_rfl) (by kernel_rfl) (by kernel_rfl) rfl hS (v_fieldAddr rfl Try.underlying96 rfl Try.sizeOf76 rfl (by first | exact Nat.zero_add _ | rfl)) ?_
                                refine d_take 5 rfl rfl (by kernel_rfl) (by kernel_rfl) (by kernel_rfl) rfl hS (v_load Try.isAgg76 rfl (cell_sc0 (k := 0) rfl rfl)) ?_
                                refine d_take 6 rfl rfl (by kernel_rfl) (by kernel_rfl) (by kernel_rfl) rfl hS (v_len_slice Try.underlying76 rfl) ?_
                                refine d_one 1 (by kernel_rfl) rfl rfl (d_call1 Try.call37 rfl (Flush_spec18 W0 _ b its _ _ now L hR (by omega))) rfl ?_; clear hS
                                rintro _ B_ ⟨rfl, its2, hB_, hR2⟩
                                obtain rfl := hB_.symm
                                refine ⟨(sc_own sc_end), fun hS => ?_⟩
                                refine d_take 7 rfl rfl (by kernel_rfl) (by kernel_rfl) (by kernel_rfl) rfl hS (v_neq rfl rfl) ?_
                                refine d_done (by kernel_rfl) ?_; clear hS
                                refine n_then ?_
                                refine x_if rfl ?_ ?_
                                · intro c29
                                  exact absurd rfl c29
                                · intro c29
                                  refine x_skip ?_
                                  refine n_then ?_
                                  refine x_region ?_
                                  refine s_val rfl (v_move rfl) ?_
                                  refine s_val rfl (v_nilCheck rfl) ?_
                                  refine s_val rfl (v_fieldAddr rfl Try.underlying96 rfl Try.sizeOf76 rfl (by first | exact Nat.zero_add _ | rfl)) ?_
                                  refine s_do0 (d_store Try.sizeOf76 rfl rfl rfl (Nat.le_of_ble_eq_true rfl) SetL.eq) ?_
                                  rintro _ _ rfl
                                  refine x_nil ?_
                                  refine n_block ?_
                                  refine n_then ?_
                                  refine mid_intro (its2, [], now) ?_ ?_ ?_
                                  · exact ⟨hR2, Nat.zero_le _, by show now ≤ i + 1; omega, Er.nil⟩
                                  · repeat (first | exact sub_nil | refine sub_cons rfl ?_)
                                  · exact (Ent.ofPerm (perm1 (r1 := rowH) (b1 := b))).trans (Ent.cons ent_rtN)
                              · intro c28
                                refine x_seq ?_
                                refine x_seq ?_
                                refine x_draw [(bk, ok + i * 2, keyV k), (be, oe + i * 3, entV e)] 11 mixed rfl (sc_cons (hck _) (sc_cons (hce _) sc_end)) (fun hS => ?_)
                                refine d_take 0 rfl rfl (by kernel_rfl) (by kernel_rfl) (by kernel_rfl) rfl hS (v_move rfl) ?_
                                refine d_take 1 rfl rfl (by kernel_rfl) (by kernel_rfl) (by kernel_rfl) rfl hS (v_move rfl) ?_
                                refine d_take 2 rfl rfl (by kernel_rfl) (by kernel_rfl) (by kernel_rfl) rfl hS (v_move rfl) ?_
                                refine d_take 3 rfl rfl (by kernel_rfl) (by kernel_rfl) (by kernel_rfl) rfl hS (v_idx Try.underlying66 Try.sizeOf73 rfl rfl rfl (by omega) (by first | exact Nat.zero_add _ | rfl)) ?_
                                refine d_take 4 rfl rfl (by kernel_rfl) (by kernel_rfl) (by kernel_rfl) rfl hS (v_loadAgg Try.isAgg73 Try.sizeOf73 rfl (by first | exact cells_sc (k := 0) rfl | exact cells_sc (k := 1) rfl) rfl) ?_
                                refine d_take 5 rfl rfl (by kernel_rfl) (by kernel_rfl) (by kernel_rfl) rfl hS (v_move rfl) ?_
                                refine d_take 6 rfl rfl (by kernel_rfl) (by kernel_rfl) (by kernel_rfl) rfl hS (v_move rfl) ?_
                                refine d_take 7 rfl rfl (by kernel_rfl) (by kernel_rfl) (by kernel_rfl) rfl hS (v_idx Try.underlying67 Try.sizeOf75 rfl rfl rfl (by omega) (by first | exact Nat.zero_add _ | rfl)) ?_
                                refine d_take 8 rfl rfl (by kernel_rfl) (by kernel_rfl) (by kernel_rfl) rfl hS (v_loadAgg Try.isAgg75 Try.sizeOf75 rfl (by first | exact cells_sc (k := 0) rfl | exact cells_sc (k := 1) rfl) rfl) ?_
                                refine d_one 9 (by kernel_rfl) rfl rfl (d_call1 Try.call29 rfl (Put_spec18 W0 _ b its n now L k e hR hL hn (by omega))) rfl ?_; clear hS
                                rintro _ B_ ⟨rfl, its2, hB_, hR2⟩
                                obtain rfl := hB_.symm
                                refine ⟨(sc_cons (hck _) (sc_cons (hce _) sc_end)), fun hS => ?_⟩
                                refine d_take 10 rfl rfl (by kernel_rfl) (by kernel_rfl) (by kernel_rfl) rfl hS (v_neq rfl rfl) ?_
                                refine d_done (by kernel_rfl) ?_; clear hS
                                refine n_then ?_
                                refine x_if rfl ?_ ?_
                                · intro c11
                                  exact absurd rfl c11
                                · intro c11
                                  refine x_skip ?_
                                  refine n_then ?_
                                  refine x_draw [(bk, ok + i * 2, keyV k), (be, oe + i * 3, entV e)] 10 mixed rfl (sc_cons (hck _) (sc_cons (hce _) sc_end)) (fun hS => ?_)
                                  refine d_take 0 rfl rfl (by kernel_rfl) (by kernel_rfl) (by kernel_rfl) rfl hS (v_move rfl) ?_
                                  refine d_take 1 rfl rfl (by kernel_rfl) (by kernel_rfl) (by kernel_rfl) rfl hS (v_move rfl) ?_
                                  refine d_take 2 rfl rfl (by kernel_rfl) (by kernel_rfl) (by kernel_rfl) rfl hS (v_move rfl) ?_
                                  refine d_take 3 rfl rfl (by kernel_rfl) (by kernel_rfl) (by kernel_rfl) rfl hS (v_idx Try.underlying66 Try.sizeOf73 rfl rfl rfl (by omega) (by first | exact Nat.zero_add _ | rfl)) ?_
                                  refine d_take 4 rfl rfl (by kernel_rfl) (by kernel_rfl) (by kernel_rfl) rfl hS (v_loadAgg Try.isAgg73 Try.sizeOf73 rfl (by first | exact cells_sc (k := 0) rfl | exact cells_sc (k := 1) rfl) rfl) ?_
                                  refine d_take 5 rfl rfl (by kernel_rfl) (by kernel_rfl) (by kernel_rfl) rfl hS (v_move rfl) ?_
                                  refine d_take 6 rfl rfl (by kernel_rfl) (by kernel_rfl) (by kernel_rfl) rfl hS (v_move rfl) ?_
                                  refine d_take 7 rfl rfl (by kernel_rfl) (by kernel_rfl) (by kernel_rfl) rfl hS (v_idx Try.underlying67 Try.sizeOf75 rfl rfl rfl (by omega) (by first | exact Nat.zero_add _ | rfl)) ?_
                                  refine d_take 8 rfl rfl (by kernel_rfl) (by kernel_rfl) (by kernel_rfl) rfl hS (v_loadAgg Try.isAgg75 Try.sizeOf75 rfl (by first | exact cells_sc (k := 0) rfl | exact cells_sc (k := 1) rfl) rfl) ?_
                                  refine d_one 9 (by kernel_rfl) rfl rfl (d_call1 Try.call43 rfl (rtPut_spec W0 _ bt L n now k e (by omega) hn)) rfl ?_; clear hS
                                  rintro _ B_ ⟨rfl, hB_⟩
                                  obtain rfl := hB_.symm
                                  refine ⟨(sc_cons (hck _) (sc_cons (hce _) sc_end)), fun hS => ?_⟩
                                  refine d_done (by kernel_rfl) ?_; clear hS
                                  refine n_block ?_
                                  refine n_then ?_
                                  refine mid_intro (its2, putL n now k e L, now + 1) ?_ ?_ ?_
                                  · exact ⟨hR2, putL_len hL, by show now + 1 ≤ i + 1; omega, hE.putL hee⟩
                                  · repeat (first | exact sub_nil | refine sub_cons rfl ?_)
                                  · exact inferInstance
                    · intro ⟨it3, L3, now3⟩ ⟨hR3, hL3, hnow3, hE3⟩
                      dsimp only at hR3 hL3 hnow3 hE3 ⊢
                      have hlen3 := hR3.length
                      refine run_rt (W0 := W0) (b := bt) (L := L3) (rm := (n : Int)) fun a0 c0 D hs0 => ?_
                      refine x_seq ?_
                      refine x_draw [(bt, 0, _)] 18 mixed rfl (sc_own sc_end) (fun hS => ?_)
                      refine d_take 0 rfl rfl (by kernel_rfl) (by kernel_rfl) (by kernel_rfl) rfl hS (v_move rfl) ?_
                      refine d_take 2 rfl rfl (by kernel_rfl) (by kernel_rfl) (by kernel_rfl) rfl hS (v_move rfl) ?_
                      refine d_take 3 rfl rfl (by kernel_rfl) (by kernel_rfl) (by kernel_rfl) rfl hS (v_nilCheck rfl) ?_
                      refine d_take 4 rfl rfl (by kernel_rfl) (by kernel_rfl) (by kernel_rfl) rfl hS (v_fieldAddr rfl Try.underlying96 rfl Try.sizeOf76 rfl (by first | exact Nat.zero_add _ | rfl)) ?_
                      refine d_take 5 rfl rfl (by kernel_rfl) (by kernel_rfl) (by kernel_rfl) rfl hS (v_load Try.isAgg76 rfl (cell_sc0 (k := 0) rfl rfl)) ?_
                      refine d_take 6 rfl rfl (by kernel_rfl) (by kernel_rfl) (by kernel_rfl) rfl hS (v_len_slice Try.underlying76 rfl) ?_
                      refine d_one 1 (by kernel_rfl) rfl rfl (d_call1 Try.call33 rfl (Len_spec W0 _ b it3 _ _)) rfl ?_; clear hS
                      rintro _ B_ ⟨rfl, hB_⟩
                      obtain rfl := hB_.symm
                      rw [hlen3]
                      refine ⟨(sc_own sc_end), fun hS => ?_⟩
                      refine d_take 7 rfl rfl (by kernel_rfl) (by kernel_rfl) (by kernel_rfl) rfl hS (v_neq rfl rfl) ?_
                      refine d_take 8 rfl rfl (by kernel_rfl) (by kernel_rfl) (by kernel_rfl) rfl hS (v_move rfl) ?_
                      refine x_split (t := 187) rfl ?_ ?_
                      · intro g32_9
                        exact absurd rfl g32_9
                      · intro g32_9
                        refine d_take 9 rfl rfl (by kernel_rfl) (by kernel_rfl) (by kernel_rfl) rfl hS (v_move rfl) ?_
                        refine d_take 11 rfl rfl (by kernel_rfl) (by kernel_rfl) (by kernel_rfl) rfl hS (v_move rfl) ?_
                        refine d_take 12 rfl rfl (by kernel_rfl) (by kernel_rfl) (by kernel_rfl) rfl hS (v_nilCheck rfl) ?_
                        refine d_take 13 rfl rfl (by kernel_rfl) (by kernel_rfl) (by kernel_rfl) rfl hS (v_fieldAddr rfl Try.underlying96 rfl Try.sizeOf76 rfl (by first | exact Nat.zero_add _ | rfl)) ?_
                        refine d_take 14 rfl rfl (by kernel_rfl) (by kernel_rfl) (by kernel_rfl) rfl hS (v_load Try.isAgg76 rfl (cell_sc0 (k := 0) rfl rfl)) ?_
                        refine d_one 10 (by kernel_rfl) rfl rfl (d_call1 Try.call30 rfl (List_spec18 W0 _ b it3 _ _ now3 L3 hR3 (by omega))) rfl ?_; clear hS
                        rintro _ B_ ⟨a1, c1, rfl, hB_⟩
                        obtain rfl := hB_.symm
                        refine ⟨(sc_own sc_end), fun hS => ?_⟩
                        refine run_sla (E := 80) (sz := 5) (a := a1) (n := L3.length) (c := c1) keptV L3 keptV_len (by decide) rfl (fun hs1 => ?_)
                        refine run_hs hs0 (fun hs2 => ?_)
                        refine d_one 15 (by kernel_rfl) rfl rfl (d_call Try.call44 rfl (same18_sla W0 _ a1 a0 c1 c0 L3 hs1 hs2 (by omega))) rfl ?_; clear hS
                        rintro _ B_ ⟨rfl, hB_⟩
                        obtain rfl := hB_.symm
                        refine ⟨(sc_own sc_end), fun hS => ?_⟩
                        refine d_take 16 rfl rfl (by kernel_rfl) (by kernel_rfl) (by kernel_rfl) rfl hS (v_not rfl) ?_
                        refine d_take 17 rfl rfl (by kernel_rfl) (by kernel_rfl) (by kernel_rfl) rfl hS (v_pick_f rfl rfl) ?_
                        refine d_done (by kernel_rfl) ?_; clear hS
                        refine n_then ?_
                        refine x_if rfl ?_ ?_
                        · intro c32
                          first | exact absurd rfl c32 | exact absurd c32 (by simp)
                        · intro c32
                          refine x_skip ?_
                          refine n_block ?_
                          refine n_then ?_
                          refine x_region ?_
                          refine s_val rfl (v_move rfl) ?_
                          refine s_val rfl (v_add rfl rfl (by first | exact w64 (by omega) | rfl)) ?_
                          refine s_val rfl (v_assign rfl) ?_
                          refine x_nil ?_
                          refine n_then ?_
                          refine inv_intro (it3, L3, now3, i + 1) ?_ ?_ ?_ ?_
                          · exact ⟨hR3, hL3, hnow3, by show i + 1 ≤ 100; omega, hE3⟩
                          · show 100 - (i + 1) < 100 - i; omega
                          · repeat (first | exact sub_nil | refine sub_cons rfl ?_)
                          · exact (Ent.ofPerm (perm1 (r1 := rowH) (b1 := b))).trans (Ent.cons (ent_rt0 rfl hs0))
                  · intro c8
                    refine x_exit ?_
                    refine e_then ?_
                    refine e_then ?_
                    refine e_block ?_
                    refine n_then ?_
                    refine mid_intro () ?_ ?_ ?_
                    · trivial
                    · repeat (first | exact sub_nil | refine sub_cons rfl ?_)
                    · exact inferInstance
                · intro g8_17
                  refine s_no rfl rfl rfl rfl ?_
                  refine s_val rfl (v_pick_f rfl rfl) ?_
                  refine x_nil ?_
                  refine n_then ?_
                  refine x_iff rfl ?_
                  refine x_exit ?_
                  refine e_then ?_
                  refine e_then ?_
                  refine e_block ?_
                  refine n_then ?_
                  refine mid_intro () ?_ ?_ ?_
                  · trivial
                  · repeat (first | exact sub_nil | refine sub_cons rfl ?_)
                  · exact inferInstance
              · intro g8_11
                refine s_no rfl rfl rfl rfl ?_
                refine s_no rfl rfl rfl rfl ?_
                refine s_no rfl rfl rfl rfl ?_
                refine s_val rfl (v_pick_f rfl rfl) ?_
                refine s_val rfl (v_move rfl) ?_
                refine s_no rfl rfl rfl rfl ?_
                refine s_no rfl rfl rfl rfl ?_
                refine s_val rfl (v_pick_f rfl rfl) ?_
                refine x_nil ?_
                refine n_then ?_
                refine x_iff rfl ?_
                refine x_exit ?_
                refine e_then ?_
                refine e_then ?_
                refine e_block ?_
                refine n_then ?_
                refine mid_intro () ?_ ?_ ?_
                · trivial
                · repeat (first | exact sub_nil | refine sub_cons rfl ?_)
                · exact inferInstance
            · intro g8_5
              refine s_no rfl rfl rfl rfl ?_
              refine s_no rfl rfl rfl rfl ?_
              refine s_no rfl rfl rfl rfl ?_
              refine s_val rfl (v_pick_f rfl rfl) ?_
              refine s_val rfl (v_move rfl) ?_
              refine s_no rfl rfl rfl rfl ?_
              refine s_no rfl rfl rfl rfl ?_
              refine s_no rfl rfl rfl rfl ?_
              refine s_no rfl rfl rfl rfl ?_
              refine s_val rfl (v_pick_f rfl rfl) ?_
              refine s_val rfl (v_move rfl) ?_
              refine s_no rfl rfl rfl rfl ?_
              refine s_no rfl rfl rfl rfl ?_
              refine s_val rfl (v_pick_f rfl rfl) ?_
              refine x_nil ?_
              refine n_then ?_
              refine x_iff rfl ?_
              refine x_exit ?_
              refine e_then ?_
              refine e_then ?_
              refine e_block ?_
              refine n_then ?_
              refine mid_intro () ?_ ?_ ?_
              · trivial
              · repeat (first | exact sub_nil | refine sub_cons rfl ?_)
              · exact inferInstance
        · intro z hz
          refine x_seq ?_
          refine x_region ?_
          refine s_do rfl (d_call Try.call34 rfl (awake18_spec W0 _)) ?_
          rintro _ B_ ⟨rfl, hB_⟩
          obtain rfl := hB_.symm
          refine s_val rfl (v_assign rfl) ?_
          refine x_nil ?_
          refine n_then ?_
          refine x_ret ?_
          refine x_done (.inl rfl) (.cons (r_tmp rfl) .nil) ?_
          exact ⟨_, ⟨rfl, rfl⟩, inferInstance⟩
end Go.Proofs.Ytechkfopkpkigaa
