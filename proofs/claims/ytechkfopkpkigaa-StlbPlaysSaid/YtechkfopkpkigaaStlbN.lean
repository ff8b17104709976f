/-
  Layer 18 (stlb): the walk of StlbNarrow.
-/
import Derived.Test.YtechkfopkpkigaaStlbH
import Derived.Test.YtechkfopkpkigaaStlbLaw
import Derived.Test.YtechkfopkpkigaaLawB
namespace Go.Proofs.Ytechkfopkpkigaa
open Go.RowKit
set_option linter.unusedSimpArgs false
set_option linter.unusedVariables false
set_option maxRecDepth 20000

def Er (L : List It) : Prop := ∀ x ∈ L, i64 x.er
theorem Er.nil : Er [] := fun _ h => by simp at h
theorem Er.putBack {L : List It} {k : Key} {x : It} (h : Er L) (hx : i64 x.er) : Er (putBack k x L) := fun y hy => by
  rcases List.mem_append.1 hy with q | q
  · exact h y (mem_without.1 q).1
  · obtain rfl : y = x := by simpa using q
    exact hx
theorem Er.putL {room now : Nat} {k : Key} {e : Ent3} {L : List It} (h : Er L) (he : i64 e.2.2) : Er (putL room now k e L) := by
  have hp : Er (Go.Proofs.Ytechkfopkpkigaa.putBack k (mkIt k e (now + 1 : Nat)) L) := h.putBack he
  unfold Go.Proofs.Ytechkfopkpkigaa.putL; split
  · exact fun y hy => hp y (List.mem_of_mem_tail hy)
  · exact hp
theorem Er.perm {its L : List It} (h : Er L) (hp : its.Perm L) : Er its := fun x hx => h x (hp.subset hx)
theorem Er.nar {L : List It} (h : Er L) (page : Int) : Er (L.map (narI page)) := fun x hx => by
  obtain ⟨y, hy, rfl⟩ := List.mem_map.1 hx
  exact narI_i64 (h y hy)
def onP (page : Int) (x : It) : Bool := decide (x.ep = page)
theorem narI_ep (page : Int) (x : It) : (narI page x).ep = x.ep := by unfold narI; split <;> rfl
theorem narI_on (page : Int) (x : It) : onP page (narI page x) = onP page x := by rw [onP, onP, narI_ep]
theorem narI_hit {page : Int} {x : It} (h : i64 x.er) : hit page (narI page x) = false := by
  unfold narI; split
  · rename_i hh
    simp only [hit, wB, Bool.and_eq_true, decide_eq_true_iff] at hh
    simp only [hit, wB, Bool.and_eq_false_iff, decide_eq_false_iff_not]
    right; omega
  · rename_i hh; simpa using hh
theorem nrN_nar {page : Int} {L : List It} (h : Er L) : nrN page (L.map (narI page)) = 0 := by
  unfold nrN
  rw [List.length_eq_zero_iff, List.filter_eq_nil_iff]
  intro x hx
  obtain ⟨y, hy, rfl⟩ := List.mem_map.1 hx
  rw [narI_hit (h y hy)]; decide
theorem keep_map {p : It → Bool} {f : It → It} (hf : ∀ x, p (f x) = p x) (L : List It) : keepL p (L.map f) = (keepL p L).map f := by
  unfold keepL
  rw [List.filter_map]
  congr 1
  apply List.filter_congr
  intro x _
  simp [hf]
theorem keep_keep (p : It → Bool) (L : List It) : keepL p (keepL p L) = keepL p L := by simp [keepL]
theorem keep_cnt (p : It → Bool) : ∀ L : List It, (L.filter p).length + (keepL p L).length = L.length
  | [] => rfl
  | x :: L => by
    have := keep_cnt p L
    unfold keepL at this ⊢
    cases hx : p x <;> simp [List.filter_cons, hx] <;> omega
theorem narI_er {page : Int} {x : It} (h : i64 x.er) : (narI page x).er = if x.ep = page then bAndNot .i64 x.er 2 else x.er := by
  by_cases he : x.ep = page
  · rw [if_pos he, noW_eq h]
    have : hit page x = wB x.er := by simp [hit, he]
    rw [narI, this]
    cases wB x.er <;> rfl
  · rw [if_neg he]
    have : hit page x = false := by simp [hit, he]
    rw [narI, this]; rfl
theorem narI_kept (page : Int) (x : It) : keptV (narI page x) = [.int .i64 x.kr, .int .i64 x.kp, .int .i64 x.ep, .int .i64 x.ef, .int .i64 (narI page x).er] := by
  unfold narI; split <;> rfl
theorem StlbNarrow_walk (W0 : World) (a : Option Addr) (c : Nat) (ks : List Key) (hks : SlB W0 a 2 keyV ks) (a' : Option Addr) (c' : Nat) (es : List Ent3) (hes : SlB W0 a' 3 entV es) (her : ∀ e ∈ es, i64 e.2.2) (page : Int) :
    Spec Try.prog W0 6 [.slice a ks.length c, .slice a' es.length c', .int .i64 page] [] (fun v B => v = .bool true ∧ B = []) := by
  refine spec_body Try.func6 Try.ntmps6 rfl rfl ?_
  refine x_seq ?_
  refine x_region ?_
  refine s_val rfl (v_assign rfl) ?_
  refine x_nil ?_
  refine n_then ?_
  refine x_seq ?_
  refine x_region ?_
  refine s_do rfl (d_call Try.call28 rfl (New_spec W0 _ 4 (by decide))) ?_
  rintro _ _ ⟨b, rfl, rfl⟩
  refine s_val rfl (v_move rfl) ?_
  refine s_val rfl (v_extract rfl rfl) ?_
  refine s_val rfl (v_extract rfl rfl) ?_
  refine s_val rfl (v_assign rfl) ?_
  refine s_val rfl (v_assign rfl) ?_
  refine x_nil ?_
  refine n_then ?_
  refine x_seq ?_
  refine x_seq ?_
  refine x_region ?_
  refine s_val rfl (v_move rfl) ?_
  refine s_val rfl (v_eql_ptr_nil Try.underlying68 rfl rfl) ?_
  refine s_val rfl (v_move rfl) ?_
  refine s_or rfl rfl rfl ?_ ?_
  · intro g2_3
    exact absurd g2_3 (by simp)
  · intro g2_3
    refine s_val rfl (v_move rfl) ?_
    refine s_yes rfl rfl ?_
    refine s_val rfl (v_neq rfl rfl) ?_
    refine s_val rfl (v_pick_f rfl rfl) ?_
    refine x_nil ?_
    refine n_then ?_
    refine x_if rfl ?_ ?_
    · intro c2
      exact absurd c2 (by simp)
    · intro c2
      refine x_skip ?_
      refine n_then ?_
      refine x_cut (fun X : List It × List It × Nat => Rep X.1 X.2.2 X.2.1 ∧ X.2.1.length ≤ 4 ∧ X.2.2 ≤ 30 ∧ Er X.2.1) (fun X => [(2, .int .i64 page), (7, .pointer (some ⟨b, 0, none⟩))]) (fun X => [rowH b (X.1, tlV 4 X.2.2)]) ?_ ?_
      · skip
        refine x_seq ?_
        refine x_region ?_
        refine s_val rfl (v_assign rfl) ?_
        refine x_nil ?_
        refine n_then ?_
        refine x_block ?_
        refine x_loop (fun X : List It × List It × Nat => Rep X.1 X.2.2 X.2.1 ∧ X.2.1.length ≤ 4 ∧ X.2.2 ≤ 30 ∧ Er X.2.1) (fun X => [(0, .slice a ks.length c), (1, .slice a' es.length c'), (2, .int .i64 page), (7, .pointer (some ⟨b, 0, none⟩)), (9, .int .i64 X.2.2)]) (fun X => [rowH b (X.1, tlV 4 X.2.2)]) (fun X => 30 - X.2.2) ([], [], 0) ?_ ?_ ?_ ?_
        · exact ⟨Rep.nil, Nat.zero_le _, Nat.zero_le _, Er.nil⟩
        · repeat (first | exact sub_nil | refine sub_cons rfl ?_)
        · exact inferInstance
        · intro ⟨its, L, i⟩ ⟨hR, hL, hi, hE⟩
          dsimp only at hR hL hi hE ⊢
          refine x_seq ?_
          refine x_seq ?_
          refine x_region ?_
          refine s_val rfl (v_move rfl) ?_
          refine s_val rfl (v_move rfl) ?_
          refine s_val rfl (v_len_slice Try.underlying66 rfl) ?_
          refine s_val rfl (v_lss rfl rfl) ?_
          refine s_val rfl (v_move rfl) ?_
          refine s_and rfl rfl rfl ?_ ?_
          · intro g5_5
            refine s_val rfl (v_move rfl) ?_
            refine s_yes rfl rfl ?_
            refine s_val rfl (v_move rfl) ?_
            refine s_yes rfl rfl ?_
            refine s_val rfl (v_len_slice Try.underlying67 rfl) ?_
            refine s_yes rfl rfl ?_
            refine s_val rfl (v_lss rfl rfl) ?_
            refine s_val rfl (v_pick_t rfl rfl) ?_
            refine s_val rfl (v_move rfl) ?_
            refine s_and rfl rfl rfl ?_ ?_
            · intro g5_11
              refine s_val rfl (v_move rfl) ?_
              refine s_yes rfl rfl ?_
              refine s_val rfl (v_lss rfl rfl) ?_
              refine s_val rfl (v_pick_t rfl rfl) ?_
              refine x_nil ?_
              refine n_then ?_
              refine x_if rfl ?_ ?_
              · intro c5
                refine x_skip ?_
                refine n_then ?_
                refine x_seq ?_
                refine x_block ?_
                obtain ⟨k, hk⟩ : ∃ k, ks[i]? = some k := ⟨ks[i], by simp⟩
                obtain ⟨bk, ok, rfl, hck⟩ := hks i k hk
                obtain ⟨e, he⟩ : ∃ e, es[i]? = some e := ⟨es[i], by simp⟩
                obtain ⟨be, oe, rfl, hce⟩ := hes i e he
                have hee := her e (List.mem_of_getElem? he)
                refine x_draw [(bk, ok + i * 2, keyV k), (be, oe + i * 3, entV e)] 10 mixed rfl (sc_cons (hck _) (sc_cons (hce _) sc_end)) (fun hS => ?_)
                refine d_take 0 rfl rfl (by kernel_rfl) (by kernel_rfl) (by kernel_rfl) rfl hS (v_move rfl) ?_
                refine d_take 1 rfl rfl (by kernel_rfl) (by kernel_rfl) (by kernel_rfl) rfl hS (v_move rfl) ?_
                refine d_take 2 rfl rfl (by kernel_rfl) (by kernel_rfl) (by kernel_rfl) rfl hS (v_move rfl) ?_
                refine d_take 3 rfl rfl (by kernel_rfl) (by kernel_rfl) (by kernel_rfl) rfl hS (v_idx Try.underlying66 Try.sizeOf73 rfl rfl rfl (by omega) (by first | exact Nat.zero_add _ | rfl)) ?_
                refine d_take 4 rfl rfl (by kernel_rfl) (by kernel_rfl) (by kernel_rfl) rfl hS (v_loadAgg Try.isAgg73 Try.sizeOf73 rfl (by first | exact cells_sc (k := 0) rfl | exact cells_sc (k := 1) rfl) rfl) ?_
                refine d_take 5 rfl rfl (by kernel_rfl) (by kernel_rfl) (by kernel_rfl) rfl hS (v_move rfl) ?_
                refine d_take 6 rfl rfl (by kernel_rfl) (by kernel_rfl) (by kernel_rfl) rfl hS (v_move rfl) ?_
                refine d_take 7 rfl rfl (by kernel_rfl) (by kernel_rfl) (by kernel_rfl) rfl hS (v_idx Try.underlying67 Try.sizeOf75 rfl rfl rfl (by omega) (by first | exact Nat.zero_add _ | rfl)) ?_
                refine d_take 8 rfl rfl (by kernel_rfl) (by kernel_rfl) (by kernel_rfl) rfl hS (v_loadAgg Try.isAgg75 Try.sizeOf75 rfl (by first | exact cells_sc (k := 0) rfl | exact cells_sc (k := 1) rfl) rfl) ?_
                refine d_one 9 (by kernel_rfl) rfl rfl (d_call1 Try.call29 rfl (Put_spec18 W0 _ b its 4 i L k e hR hL (by decide) (by omega))) rfl ?_; clear hS
                rintro _ _ ⟨rfl, its1, rfl, hR1⟩
                refine ⟨(sc_cons (hck _) (sc_cons (hce _) sc_end)), fun hS => ?_⟩
                refine d_done (by kernel_rfl) ?_; clear hS
                refine n_block ?_
                refine n_then ?_
                refine x_region ?_
                refine s_val rfl (v_move rfl) ?_
                refine s_val rfl (v_add rfl rfl (by first | exact w64 (by omega) | rfl)) ?_
                refine s_val rfl (v_assign rfl) ?_
                refine x_nil ?_
                refine n_then ?_
                refine inv_intro (its1, putL 4 i k e L, i + 1) ?_ ?_ ?_ ?_
                · exact ⟨hR1, putL_len hL, by show i + 1 ≤ 30; omega, hE.putL hee⟩
                · show 30 - (i + 1) < 30 - i; omega
                · repeat (first | exact sub_nil | refine sub_cons rfl ?_)
                · exact inferInstance
              · intro c5
                refine x_exit ?_
                refine e_then ?_
                refine e_then ?_
                refine e_block ?_
                refine n_then ?_
                refine mid_intro (its, L, i) ?_ ?_ ?_
                · exact ⟨hR, hL, hi, hE⟩
                · repeat (first | exact sub_nil | refine sub_cons rfl ?_)
                · exact inferInstance
            · intro g5_11
              refine s_no rfl rfl rfl rfl ?_
              refine s_val rfl (v_pick_f rfl rfl) ?_
              refine x_nil ?_
              refine n_then ?_
              refine x_iff rfl ?_
              refine x_exit ?_
              refine e_then ?_
              refine e_then ?_
              refine e_block ?_
              refine n_then ?_
              refine mid_intro (its, L, i) ?_ ?_ ?_
              · exact ⟨hR, hL, hi, hE⟩
              · repeat (first | exact sub_nil | refine sub_cons rfl ?_)
              · exact inferInstance
          · intro g5_5
            refine s_no rfl rfl rfl rfl ?_
            refine s_no rfl rfl rfl rfl ?_
            refine s_no rfl rfl rfl rfl ?_
            refine s_val rfl (v_pick_f rfl rfl) ?_
            refine s_val rfl (v_move rfl) ?_
            refine s_no rfl rfl rfl rfl ?_
            refine s_no rfl rfl rfl rfl ?_
            refine s_val rfl (v_pick_f rfl rfl) ?_
            refine x_nil ?_
            refine n_then ?_
            refine x_iff rfl ?_
            refine x_exit ?_
            refine e_then ?_
            refine e_then ?_
            refine e_block ?_
            refine n_then ?_
            refine mid_intro (its, L, i) ?_ ?_ ?_
            · exact ⟨hR, hL, hi, hE⟩
            · repeat (first | exact sub_nil | refine sub_cons rfl ?_)
            · exact inferInstance
      · intro ⟨its, L, i⟩ ⟨hR, hL, hi, hE⟩
        dsimp only at hR hL hi hE ⊢
        have hlen := hR.length
        have hRn := hR.nar page
        have hRm := hRn.nar page
        have hEn := hE.nar page
        have e1 := keep_map (p := onP page) (narI_on page) (L.map (narI page))
        have e2 := keep_map (p := onP page) (narI_on page) L
        have hcn := keep_cnt (onP page) L
        refine x_seq ?_
        refine x_region ?_
        refine s_val rfl (v_move rfl) ?_
        refine s_do rfl (d_call1 Try.call30 rfl (List_spec18 W0 _ b its _ _ i L hR (by omega))) ?_
        rintro _ B_ ⟨a1, c1, rfl, hB_⟩
        obtain rfl := hB_.symm
        refine s_val rfl (v_assign rfl) ?_
        refine x_nil ?_
        refine n_then ?_
        refine x_seq ?_
        refine x_region ?_
        refine s_val rfl (v_move rfl) ?_
        refine s_val rfl (v_move rfl) ?_
        refine s_do rfl (d_call1 Try.call31 rfl (Narrow_spec18 W0 _ b its _ _ page (by omega) (hE.perm hR.perm))) ?_
        rintro _ B_ ⟨rfl, hB_⟩
        obtain rfl := hB_.symm
        refine x_nil ?_
        refine n_then ?_
        refine x_seq ?_
        refine x_region ?_
        refine s_val rfl (v_move rfl) ?_
        refine s_do rfl (d_call1 Try.call30 rfl (List_spec18 W0 _ b _ _ _ i _ hRn (by rw [List.length_map]; omega))) ?_
        rintro _ B_ ⟨a2, c2, rfl, hB_⟩
        obtain rfl := hB_.symm
        rw [List.length_map]
        refine s_val rfl (v_assign rfl) ?_
        refine x_nil ?_
        refine n_then ?_
        refine x_seq ?_
        refine x_seq ?_
        refine x_region ?_
        refine s_val rfl (v_move rfl) ?_
        refine s_val rfl (v_len_slice Try.underlying76 rfl) ?_
        refine s_val rfl (v_move rfl) ?_
        refine s_val rfl (v_len_slice Try.underlying76 rfl) ?_
        refine s_val rfl (v_neq rfl rfl) ?_
        refine x_nil ?_
        refine n_then ?_
        refine x_if rfl ?_ ?_
        · intro c11
          exact absurd rfl c11
        · intro c11
          refine x_skip ?_
          refine n_then ?_
          refine x_seq ?_
          refine x_region ?_
          refine s_val rfl (v_assign rfl) ?_
          refine x_nil ?_
          refine n_then ?_
          refine x_seq ?_
          refine x_seq ?_
          refine x_region ?_
          refine s_val rfl (v_assign rfl) ?_
          refine x_nil ?_
          refine n_then ?_
          refine x_block ?_
          refine x_loop (fun X : Nat × Nat => X.1 ≤ L.length ∧ X.2 = ((L.take X.1).filter (onP page)).length) (fun X => [(2, .int .i64 page), (7, .pointer (some ⟨b, 0, none⟩)), (10, .slice a1 L.length c1), (11, .slice a2 L.length c2), (12, .int .i64 X.2), (13, .int .i64 X.1)]) (fun X => osl 80 5 (.slice a1 L.length c1) (L.flatMap keptV) :: osl 80 5 (.slice a2 L.length c2) ((L.map (narI page)).flatMap keptV) :: [rowH b (its.map (narI page), tlV 4 i)]) (fun X => L.length - X.1) (0, 0) ?_ ?_ ?_ ?_
          · exact ⟨Nat.zero_le _, by simp⟩
          · repeat (first | exact sub_nil | refine sub_cons rfl ?_)
          · exact inferInstance
          · intro ⟨j, n⟩ ⟨hj, hn⟩
            dsimp only at hj hn ⊢
            have hnl : n ≤ 4 := by
              rw [hn]
              exact Nat.le_trans (List.length_filter_le _ _) (by rw [List.length_take]; omega)
            refine x_seq ?_
            refine x_seq ?_
            refine x_region ?_
            refine s_val rfl (v_move rfl) ?_
            refine s_val rfl (v_move rfl) ?_
            refine s_val rfl (v_len_slice Try.underlying76 rfl) ?_
            refine s_val rfl (v_lss rfl rfl) ?_
            refine s_val rfl (v_move rfl) ?_
            refine s_and rfl rfl rfl ?_ ?_
            · intro g15_5
              refine s_val rfl (v_move rfl) ?_
              refine s_yes rfl rfl ?_
              refine s_val rfl (v_move rfl) ?_
              refine s_yes rfl rfl ?_
              refine s_val rfl (v_len_slice Try.underlying76 rfl) ?_
              refine s_yes rfl rfl ?_
              refine s_val rfl (v_lss rfl rfl) ?_
              refine s_val rfl (v_pick_t rfl rfl) ?_
              refine x_nil ?_
              refine n_then ?_
              refine x_if rfl ?_ ?_
              · intro c15
                have hj1 : j < L.length := by omega
                have hx := hE _ (List.getElem_mem hj1)
                have htk : L.take (j + 1) = L.take j ++ [L[j]] := List.take_succ_eq_append_getElem hj1
                refine run_sla (E := 80) (sz := 5) (a := a1) (n := L.length) (c := c1) keptV L keptV_len (by decide) rfl (fun hs1 => ?_)
                refine run_sla (E := 80) (sz := 5) (a := a2) (n := L.length) (c := c2) keptV (L.map (narI page)) keptV_len (by decide) rfl (fun hs2 => ?_)
                obtain ⟨g1, o1, rfl, hc1⟩ := hs1.at_ hj1
                obtain ⟨g2, o2, rfl, hc2⟩ := hs2.at_ (i := j) (by simpa using hj1)
                rw [List.getElem_map, narI_kept] at hc2
                refine x_skip ?_
                refine n_then ?_
                refine x_seq ?_
                refine x_block ?_
                refine x_seq ?_
                refine x_region ?_
                refine s_val rfl (v_move rfl) ?_
                refine s_val rfl (v_move rfl) ?_
                refine s_val rfl (v_idx Try.underlying76 Try.sizeOf80 rfl rfl rfl hj1 (by first | exact Nat.zero_add _ | rfl)) ?_
                refine s_val rfl (v_loadAgg Try.isAgg80 Try.sizeOf80 rfl hc1 rfl) ?_
                refine s_do rfl (d_allocA Try.zeroValue80) ?_
                rintro _ _ ⟨bw, rfl, rfl⟩
                refine s_do0 (d_storeAll Try.sizeOf80 rfl rfl rfl rfl rfl) ?_
                rintro _ _ rfl
                refine x_nil ?_
                refine n_then ?_
                refine x_cut (fun Z : Nat × Int × Nat => Z.2.1 = (narI page L[j]).er ∧ Z.2.2 = n + (if L[j].ep = page then 1 else 0)) (fun Z => [(2, .int .i64 page), (7, .pointer (some ⟨b, 0, none⟩)), (10, .slice (some ⟨g1, o1, none⟩) L.length c1), (11, .slice (some ⟨g2, o2, none⟩) L.length c2), (12, .int .i64 Z.2.2), (13, .int .i64 j), (14, .pointer (some ⟨Z.1, 0, none⟩))]) (fun Z => pt Z.1 (cob [.int .i64 L[j].kr, .int .i64 L[j].kp, .int .i64 L[j].ep, .int .i64 L[j].ef, .int .i64 Z.2.1] 80) :: osl 80 5 (.slice (some ⟨g1, o1, none⟩) L.length c1) (L.flatMap keptV) :: osl 80 5 (.slice (some ⟨g2, o2, none⟩) L.length c2) ((L.map (narI page)).flatMap keptV) :: [rowH b (its.map (narI page), tlV 4 i)]) ?_ ?_
                · skip
                  refine x_seq ?_
                  refine run_pt (b := bw) (o' := cob [.int .i64 L[j].kr, .int .i64 L[j].kp, .int .i64 L[j].ep, .int .i64 L[j].ef, .int .i64 L[j].er] 80) rfl ?_
                  refine x_region ?_
                  refine s_val rfl (v_fieldAddr rfl Try.underlying80 rfl Try.sizeOf75 rfl (by first | exact Nat.zero_add _ | rfl)) ?_
                  refine s_val rfl (v_fieldAddr rfl Try.underlying75 rfl Try.sizeOf3 rfl (by first | exact Nat.zero_add _ | rfl)) ?_
                  refine s_val rfl (v_load Try.isAgg3 rfl (cell_own rfl)) ?_
                  refine s_val rfl (v_move rfl) ?_
                  refine s_val rfl (v_eql rfl rfl) ?_
                  refine x_nil ?_
                  refine n_then ?_
                  refine x_if rfl ?_ ?_
                  · intro c18
                    refine x_seq ?_
                    refine x_region ?_
                    refine s_val rfl (v_fieldAddr rfl Try.underlying80 rfl Try.sizeOf75 rfl (by first | exact Nat.zero_add _ | rfl)) ?_
                    refine s_val rfl (v_fieldAddr rfl Try.underlying75 rfl Try.sizeOf3 rfl (by first | exact Nat.zero_add _ | rfl)) ?_
                    refine s_val rfl (v_load Try.isAgg3 rfl (cell_own rfl)) ?_
                    refine s_val rfl (v_andNot rfl rfl rfl) ?_
                    refine s_val rfl (v_fieldAddr rfl Try.underlying80 rfl Try.sizeOf75 rfl (by first | exact Nat.zero_add _ | rfl)) ?_
                    refine s_val rfl (v_fieldAddr rfl Try.underlying75 rfl Try.sizeOf3 rfl (by first | exact Nat.zero_add _ | rfl)) ?_
                    refine s_do0 (d_store Try.sizeOf3 rfl rfl rfl (Nat.le_of_ble_eq_true rfl) SetL.eq) ?_
                    rintro _ _ rfl
                    refine x_nil ?_
                    refine n_then ?_
                    refine x_region ?_
                    refine s_val rfl (v_move rfl) ?_
                    refine s_val rfl (v_add rfl rfl (by rw [w64 (by omega)]; omega : IntKind.wrap .i64 ((n : Int) + 1) = ((n + 1 : Nat) : Int))) ?_
                    refine s_val rfl (v_assign rfl) ?_
                    refine x_nil ?_
                    refine n_then ?_
                    refine mid_intro (bw, bAndNot .i64 L[j].er 2, n + 1) ?_ ?_ ?_
                    · exact ⟨by rw [narI_er hx, if_pos c18], by rw [if_pos c18]⟩
                    · repeat (first | exact sub_nil | refine sub_cons rfl ?_)
                    · exact inferInstance
                  · intro c18
                    refine x_skip ?_
                    refine n_then ?_
                    refine mid_intro (bw, L[j].er, n) ?_ ?_ ?_
                    · exact ⟨by rw [narI_er hx, if_neg c18], by rw [if_neg c18]; rfl⟩
                    · repeat (first | exact sub_nil | refine sub_cons rfl ?_)
                    · exact inferInstance
                · intro ⟨bw, er, m⟩ ⟨hz1, hz2⟩
                  dsimp only at hz1 hz2 ⊢
                  subst hz1
                  have hm4 : m ≤ 5 := by rw [hz2]; split <;> omega
                  have hc2' : Cells (OwnP W0 (pt bw (cob [.int .i64 L[j].kr, .int .i64 L[j].kp, .int .i64 L[j].ep, .int .i64 L[j].ef, .int .i64 (narI page L[j]).er] 80) :: osl 80 5 (.slice (some ⟨g1, o1, none⟩) L.length c1) (L.flatMap keptV) :: osl 80 5 (.slice (some ⟨g2, o2, none⟩) L.length c2) ((L.map (narI page)).flatMap keptV) :: [rowH b (its.map (narI page), tlV 4 i)])) g2 (o2 + j * 5) [.int .i64 L[j].kr, .int .i64 L[j].kp, .int .i64 L[j].ep, .int .i64 L[j].ef, .int .i64 (narI page L[j]).er] := hc2.weak
                  refine x_seq ?_
                  refine x_draw [(g2, o2 + j * 5, [.int .i64 L[j].kr, .int .i64 L[j].kp, .int .i64 L[j].ep, .int .i64 L[j].ef, .int .i64 (narI page L[j]).er]), (bw, 0, _)] 6 mixed rfl (sc_cons hc2' (sc_own sc_end)) (fun hS => ?_)
                  refine d_take 0 rfl rfl (by kernel_rfl) (by kernel_rfl) (by kernel_rfl) rfl hS (v_move rfl) ?_
                  refine d_take 1 rfl rfl (by kernel_rfl) (by kernel_rfl) (by kernel_rfl) rfl hS (v_move rfl) ?_
                  refine d_take 2 rfl rfl (by kernel_rfl) (by kernel_rfl) (by kernel_rfl) rfl hS (v_idx Try.underlying76 Try.sizeOf80 rfl rfl rfl hj1 (by first | exact Nat.zero_add _ | rfl)) ?_
                  refine d_take 3 rfl rfl (by kernel_rfl) (by kernel_rfl) (by kernel_rfl) rfl hS (v_loadAgg Try.isAgg80 Try.sizeOf80 rfl (by first | exact cells_sc (k := 0) rfl | exact cells_sc (k := 1) rfl | exact cells_sc (k := 2) rfl) rfl) ?_
                  refine d_take 4 rfl rfl (by kernel_rfl) (by kernel_rfl) (by kernel_rfl) rfl hS (v_loadAgg Try.isAgg80 Try.sizeOf80 rfl (by first | exact cells_sc (k := 0) rfl | exact cells_sc (k := 1) rfl | exact cells_sc (k := 2) rfl) rfl) ?_
                  refine d_take 5 rfl rfl (by kernel_rfl) (by kernel_rfl) (by kernel_rfl) rfl hS (v_neq_agg Try.eqGuardType80 rfl rfl (q_struct Try.underlying80 Try.stoodInHeld80 (qf_gen rfl (part_agg Try.isAgg73 Try.sizeOf73 TakeL.eq) (part_agg Try.isAgg73 Try.sizeOf73 TakeL.eq) (q_struct Try.underlying73 Try.stoodInHeld73 (qf_scal rfl Try.isAgg3 rfl rfl (q_int Try.underlying3) (qf_scal rfl Try.isAgg3 rfl rfl (q_int Try.underlying3) qf_nil))) (qf_gen rfl (part_agg Try.isAgg75 Try.sizeOf75 TakeL.eq) (part_agg Try.isAgg75 Try.sizeOf75 TakeL.eq) (q_struct Try.underlying75 Try.stoodInHeld75 (qf_scal rfl Try.isAgg3 rfl rfl (q_int Try.underlying3) (qf_scal rfl Try.isAgg3 rfl rfl (q_int Try.underlying3) (qf_scal rfl Try.isAgg3 rfl rfl (q_int Try.underlying3) qf_nil)))) qf_nil)))) ?_
                  refine d_done (by kernel_rfl) ?_; clear hS
                  refine n_then ?_
                  refine x_if rfl ?_ ?_
                  · intro c21
                    first | exact absurd rfl c21 | exact absurd c21 (by simp)
                  · intro c21
                    refine x_skip ?_
                    refine n_block ?_
                    refine n_then ?_
                    refine x_region ?_
                    refine s_val rfl (v_move rfl) ?_
                    refine s_val rfl (v_add rfl rfl (by first | exact w64 (by omega) | rfl)) ?_
                    refine s_val rfl (v_assign rfl) ?_
                    refine x_nil ?_
                    refine n_then ?_
                    refine inv_intro (j + 1, m) ?_ ?_ ?_ ?_
                    · refine ⟨by show j + 1 ≤ L.length; omega, ?_⟩
                      show m = ((L.take (j + 1)).filter (onP page)).length
                      rw [htk, List.filter_append, List.length_append, ← hn, hz2]
                      by_cases q : L[j].ep = page
                      · rw [if_pos q]; simp [onP, q]
                      · rw [if_neg q]; simp [onP, q]
                    · show L.length - (j + 1) < L.length - j; omega
                    · repeat (first | exact sub_nil | refine sub_cons rfl ?_)
                    · exact inferInstance
              · intro c15
                refine x_exit ?_
                refine e_then ?_
                refine e_then ?_
                refine e_block ?_
                refine n_then ?_
                refine x_seq ?_
                obtain rfl : j = L.length := by omega
                rw [List.take_of_length_le (Nat.le_refl _)] at hn
                refine x_region ?_
                refine s_val rfl (v_move rfl) ?_
                refine s_val rfl (v_move rfl) ?_
                refine s_do rfl (d_call1 Try.call31 rfl (Narrow_spec18 W0 _ b (its.map (narI page)) _ _ page (by rw [List.length_map]; omega) ((hE.nar page).perm hRn.perm))) ?_
                rintro _ B_ ⟨rfl, hB_⟩
                obtain rfl := hB_.symm
                rw [nrN_nar (hE.perm hR.perm)]
                refine s_val rfl (v_eql rfl rfl) ?_
                refine s_val rfl (v_move rfl) ?_
                refine s_and rfl rfl rfl ?_ ?_
                · intro g23_5
                  refine s_val rfl (v_move rfl) ?_
                  refine s_yes rfl rfl ?_
                  refine s_val rfl (v_move rfl) ?_
                  refine s_yes rfl rfl ?_
                  refine s_do rfl (d_call1 Try.call32 rfl (Gone_spec18 W0 _ b _ _ _ i _ page hRm (by simp only [List.length_map]; omega))) ?_
                  rintro _ B_ ⟨rfl, its2, hB_, hR2⟩
                  obtain rfl := hB_.symm
                  have hR2' : Rep its2 i (keepL (onP page) ((L.map (narI page)).map (narI page))) := hR2
                  have hl2 := hR2'.length
                  rw [e1, e2, List.length_map, List.length_map] at hl2
                  rw [show (keepL (fun x => decide (x.ep = page)) ((L.map (narI page)).map (narI page))).length = (keepL (onP page) L).length by
                    show (keepL (onP page) ((L.map (narI page)).map (narI page))).length = _
                    rw [e1, e2, List.length_map, List.length_map], List.length_map, List.length_map]
                  refine s_yes rfl rfl ?_
                  refine s_val rfl (v_move rfl) ?_
                  refine s_yes rfl rfl ?_
                  refine s_val rfl (v_eql rfl rfl) ?_
                  refine s_val rfl (v_pick_t rfl rfl) ?_
                  refine s_val rfl (v_move rfl) ?_
                  refine s_and rfl rfl rfl ?_ ?_
                  · intro g23_12
                    refine s_val rfl (v_move rfl) ?_
                    refine s_yes rfl rfl ?_
                    refine s_do rfl (d_call1 Try.call33 rfl (Len_spec W0 _ b its2 _ _)) ?_
                    rintro _ B_ ⟨rfl, hB_⟩
                    obtain rfl := hB_.symm
                    refine s_yes rfl rfl ?_
                    refine s_val rfl (v_move rfl) ?_
                    refine s_yes rfl rfl ?_
                    refine s_val rfl (v_len_slice Try.underlying76 rfl) ?_
                    refine s_yes rfl rfl ?_
                    refine s_val rfl (v_move rfl) ?_
                    refine s_yes rfl rfl ?_
                    refine s_val rfl (v_sub rfl rfl (w64 (by omega))) ?_
                    refine s_yes rfl rfl ?_
                    refine s_val rfl (v_eql rfl rfl) ?_
                    refine s_val rfl (v_pick_t rfl rfl) ?_
                    refine s_val rfl (v_move rfl) ?_
                    refine s_and rfl rfl rfl ?_ ?_
                    · intro g23_21
                      refine s_val rfl (v_move rfl) ?_
                      refine s_yes rfl rfl ?_
                      refine s_val rfl (v_move rfl) ?_
                      refine s_yes rfl rfl ?_
                      refine s_do rfl (d_call1 Try.call32 rfl (Gone_spec18 W0 _ b its2 _ _ i _ page hR2' (by omega))) ?_
                      rintro _ B_ ⟨rfl, its3, hB_, hR3⟩
                      obtain rfl := hB_.symm
                      rw [show (keepL (fun x => decide (x.ep = page)) (keepL (onP page) ((L.map (narI page)).map (narI page)))).length = (keepL (onP page) ((L.map (narI page)).map (narI page))).length by
                        show (keepL (onP page) (keepL (onP page) ((L.map (narI page)).map (narI page)))).length = _
                        rw [keep_keep], Nat.sub_self]
                      refine s_yes rfl rfl ?_
                      refine s_val rfl (v_eql rfl rfl) ?_
                      refine s_val rfl (v_pick_t rfl rfl) ?_
                      refine s_val rfl (v_move rfl) ?_
                      refine s_and rfl rfl rfl ?_ ?_
                      · intro g23_27
                        refine s_do rfl (d_call Try.call34 rfl (awake18_spec W0 _)) ?_
                        rintro _ B_ ⟨rfl, hB_⟩
                        obtain rfl := hB_.symm
                        refine s_val rfl (v_pick_t rfl rfl) ?_
                        refine s_val rfl (v_assign rfl) ?_
                        refine x_nil ?_
                        refine n_then ?_
                        refine x_ret ?_
                        refine x_done (.inl rfl) (.cons (r_tmp rfl) .nil) ?_
                        exact ⟨_, ⟨rfl, rfl⟩, inferInstance⟩
                      · intro g23_27
                        first | exact absurd rfl g23_27 | exact absurd (by omega) g23_27
                    · intro g23_21
                      first | exact absurd rfl g23_21 | exact absurd (by omega) g23_21
                  · intro g23_12
                    first | exact absurd rfl g23_12 | exact absurd (by omega) g23_12
                · intro g23_5
                  first | exact absurd rfl g23_5 | exact absurd (by omega) g23_5
            · intro g15_5
              refine s_no rfl rfl rfl rfl ?_
              refine s_no rfl rfl rfl rfl ?_
              refine s_no rfl rfl rfl rfl ?_
              refine s_val rfl (v_pick_f rfl rfl) ?_
              refine x_nil ?_
              refine n_then ?_
              refine x_iff rfl ?_
              refine x_exit ?_
              refine e_then ?_
              refine e_then ?_
              refine e_block ?_
              refine n_then ?_
              refine x_seq ?_
              obtain rfl : j = L.length := by omega
              rw [List.take_of_length_le (Nat.le_refl _)] at hn
              refine x_region ?_
              refine s_val rfl (v_move rfl) ?_
              refine s_val rfl (v_move rfl) ?_
              refine s_do rfl (d_call1 Try.call31 rfl (Narrow_spec18 W0 _ b (its.map (narI page)) _ _ page (by rw [List.length_map]; omega) ((hE.nar page).perm hRn.perm))) ?_
              rintro _ B_ ⟨rfl, hB_⟩
              obtain rfl := hB_.symm
              rw [nrN_nar (hE.perm hR.perm)]
              refine s_val rfl (v_eql rfl rfl) ?_
              refine s_val rfl (v_move rfl) ?_
              refine s_and rfl rfl rfl ?_ ?_
              · intro g23_5
                refine s_val rfl (v_move rfl) ?_
                refine s_yes rfl rfl ?_
                refine s_val rfl (v_move rfl) ?_
                refine s_yes rfl rfl ?_
                refine s_do rfl (d_call1 Try.call32 rfl (Gone_spec18 W0 _ b _ _ _ i _ page hRm (by simp only [List.length_map]; omega))) ?_
                rintro _ B_ ⟨rfl, its2, hB_, hR2⟩
                obtain rfl := hB_.symm
                have hR2' : Rep its2 i (keepL (onP page) ((L.map (narI page)).map (narI page))) := hR2
                have hl2 := hR2'.length
                rw [e1, e2, List.length_map, List.length_map] at hl2
                rw [show (keepL (fun x => decide (x.ep = page)) ((L.map (narI page)).map (narI page))).length = (keepL (onP page) L).length by
                  show (keepL (onP page) ((L.map (narI page)).map (narI page))).length = _
                  rw [e1, e2, List.length_map, List.length_map], List.length_map, List.length_map]
                refine s_yes rfl rfl ?_
                refine s_val rfl (v_move rfl) ?_
                refine s_yes rfl rfl ?_
                refine s_val rfl (v_eql rfl rfl) ?_
                refine s_val rfl (v_pick_t rfl rfl) ?_
                refine s_val rfl (v_move rfl) ?_
                refine s_and rfl rfl rfl ?_ ?_
                · intro g23_12
                  refine s_val rfl (v_move rfl) ?_
                  refine s_yes rfl rfl ?_
                  refine s_do rfl (d_call1 Try.call33 rfl (Len_spec W0 _ b its2 _ _)) ?_
                  rintro _ B_ ⟨rfl, hB_⟩
                  obtain rfl := hB_.symm
                  refine s_yes rfl rfl ?_
                  refine s_val rfl (v_move rfl) ?_
                  refine s_yes rfl rfl ?_
                  refine s_val rfl (v_len_slice Try.underlying76 rfl) ?_
                  refine s_yes rfl rfl ?_
                  refine s_val rfl (v_move rfl) ?_
                  refine s_yes rfl rfl ?_
                  refine s_val rfl (v_sub rfl rfl (w64 (by omega))) ?_
                  refine s_yes rfl rfl ?_
                  refine s_val rfl (v_eql rfl rfl) ?_
                  refine s_val rfl (v_pick_t rfl rfl) ?_
                  refine s_val rfl (v_move rfl) ?_
                  refine s_and rfl rfl rfl ?_ ?_
                  · intro g23_21
                    refine s_val rfl (v_move rfl) ?_
                    refine s_yes rfl rfl ?_
                    refine s_val rfl (v_move rfl) ?_
                    refine s_yes rfl rfl ?_
                    refine s_do rfl (d_call1 Try.call32 rfl (Gone_spec18 W0 _ b its2 _ _ i _ page hR2' (by omega))) ?_
                    rintro _ B_ ⟨rfl, its3, hB_, hR3⟩
                    obtain rfl := hB_.symm
                    rw [show (keepL (fun x => decide (x.ep = page)) (keepL (onP page) ((L.map (narI page)).map (narI page)))).length = (keepL (onP page) ((L.map (narI page)).map (narI page))).length by
                      show (keepL (onP page) (keepL (onP page) ((L.map (narI page)).map (narI page)))).length = _
                      rw [keep_keep], Nat.sub_self]
                    refine s_yes rfl rfl ?_
                    refine s_val rfl (v_eql rfl rfl) ?_
                    refine s_val rfl (v_pick_t rfl rfl) ?_
                    refine s_val rfl (v_move rfl) ?_
                    refine s_and rfl rfl rfl ?_ ?_
                    · intro g23_27
                      refine s_do rfl (d_call Try.call34 rfl (awake18_spec W0 _)) ?_
                      rintro _ B_ ⟨rfl, hB_⟩
                      obtain rfl := hB_.symm
                      refine s_val rfl (v_pick_t rfl rfl) ?_
                      refine s_val rfl (v_assign rfl) ?_
                      refine x_nil ?_
                      refine n_then ?_
                      refine x_ret ?_
                      refine x_done (.inl rfl) (.cons (r_tmp rfl) .nil) ?_
                      exact ⟨_, ⟨rfl, rfl⟩, inferInstance⟩
                    · intro g23_27
                      first | exact absurd rfl g23_27 | exact absurd (by omega) g23_27
                  · intro g23_21
                    first | exact absurd rfl g23_21 | exact absurd (by omega) g23_21
                · intro g23_12
                  first | exact absurd rfl g23_12 | exact absurd (by omega) g23_12
              · intro g23_5
                first | exact absurd rfl g23_5 | exact absurd (by omega) g23_5
end Go.Proofs.Ytechkfopkpkigaa
