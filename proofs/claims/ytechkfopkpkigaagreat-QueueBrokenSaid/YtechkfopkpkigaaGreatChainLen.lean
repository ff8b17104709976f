/-
  Layer 22 (chain): lengths, by both texts.
-/
import Derived.Test.YtechkfopkpkigaaGreatChainB
import Derived.Test.YtechkfopkpkigaaGreatRefViewC
namespace Go.Proofs.YtechkfopkpkigaaGreat
open Go.RowKit
set_option linter.unusedSimpArgs false
set_option linter.unusedVariables false
set_option maxRecDepth 20000

def lenW (l : List Dsc) (w : Bool) : Nat := (l.map fun d => if wrB d = w then d.len else 0).sum
theorem lenW_snoc (l : List Dsc) (d : Dsc) (w : Bool) : lenW (l ++ [d]) w = lenW l w + (if wrB d = w then d.len else 0) := by simp [lenW]
theorem lenW_take {l : List Dsc} {i : Nat} (h : i < l.length) (w : Bool) : lenW (l.take (i + 1)) w = lenW (l.take i) w + (if wrB l[i] = w then l[i].len else 0) := by
  rw [List.take_succ_eq_append_getElem h, lenW_snoc]
theorem lenW_le {l : List Dsc} (hl : ∀ d ∈ l, d.ok) (w : Bool) : lenW l w ≤ l.length * 4294967296 := by
  induction l with
  | nil => simp [lenW]
  | cons d l ih =>
    have h1 := (hl d (by simp)).len
    have h2 := ih (fun x hx => hl x (by simp [hx]))
    simp only [lenW, List.map_cons, List.sum_cons, List.length_cons] at h2 ⊢
    split <;> omega
theorem dsV_flat_len (d : Dsc) : (dsV d).length = 4 := rfl
theorem chLen_sla (W0 : World) (R : List HP) (a : Option Addr) (c : Nat) (l : List Dsc) (w : Bool) (hl : ∀ d ∈ l, d.ok) (hn : l.length ≤ 1000) (hs : SlA (OwnP W0 R) a 4 dsV l) :
    Spec Tryz.prog W0 185 [.slice a l.length c, .bool w] R (fun v B => v = .int .i64 (lenW l w : Nat) ∧ B = R) := by
  refine spec_body Tryz.func185 Tryz.ntmps185 rfl rfl ?_
  refine x_seq ?_
  refine x_region ?_
  refine s_val rfl (v_assign rfl) ?_
  refine x_nil ?_
  refine n_then ?_
  refine x_seq ?_
  refine x_region ?_
  refine s_val rfl (v_assign rfl) ?_
  refine x_nil ?_
  refine n_then ?_
  refine x_seq ?_
  refine x_seq ?_
  refine x_region ?_
  refine s_val rfl (v_move rfl) ?_
  refine s_val rfl (v_len_slice Tryz.underlying43 rfl) ?_
  refine s_val rfl (v_move rfl) ?_
  refine x_nil ?_
  refine n_then ?_
  refine x_block ?_
  refine x_loop (fun i : Nat => i ≤ l.length) (fun i => [(1, .bool w), (5, .int .i64 (lenW (l.take i) w : Nat)), (8, .slice a l.length c), (9, .int .i64 l.length), (10, .int .i64 i)]) (fun i => R) (fun i => l.length - i) 0 ?_ ?_ ?_ ?_
  · exact Nat.zero_le _
  · repeat (first | exact sub_nil | refine sub_cons rfl ?_)
  · exact inferInstance
  · intro i hi
    refine x_seq ?_
    refine x_region ?_
    refine s_val rfl (v_lss rfl rfl) ?_
    refine x_nil ?_
    refine n_then ?_
    refine x_seq ?_
    refine x_if rfl ?_ ?_
    · intro c3
      refine x_skip ?_
      refine n_then ?_
      refine x_seq ?_
      refine x_block ?_
      refine x_seq ?_
      have hi1 : i < l.length := by omega
      obtain ⟨g, o, rfl, hc⟩ := hs.at_ hi1
      have hd := hl _ (List.getElem_mem hi1)
      have htk := lenW_take hi1 w
      have hle := lenW_le (fun d hd => hl d (List.mem_of_mem_take hd) : ∀ d ∈ l.take i, d.ok) w
      have hti : (l.take i).length = i := by rw [List.length_take]; omega
      have hdl := hd.len
      refine x_region ?_
      refine s_val rfl (v_idx Tryz.underlying43 Tryz.sizeOf99 rfl rfl rfl hi1 (by first | exact Nat.zero_add _ | rfl)) ?_
      refine s_val rfl (v_loadAgg Tryz.isAgg99 Tryz.sizeOf99 rfl hc.weak rfl) ?_
      refine s_do rfl (d_allocA Tryz.zeroValue99) ?_
      rintro _ _ ⟨b1, rfl, rfl⟩
      refine s_do0 (d_storeAll Tryz.sizeOf99 rfl rfl rfl rfl rfl) ?_
      rintro _ _ rfl
      refine x_nil ?_
      refine n_then ?_
      refine x_seq ?_
      refine x_region ?_
      refine s_val rfl (v_loadAll Tryz.isAgg99 Tryz.sizeOf99 rfl rfl) ?_
      refine s_do rfl (d_call Tryz.call188 rfl (chWrites_spec W0 _ l[i] hd)) ?_
      rintro _ B_ ⟨rfl, hB_⟩
      obtain rfl := hB_.symm
      refine s_val rfl (v_move rfl) ?_
      refine s_val rfl (v_eql_bool Tryz.underlying4 rfl rfl) ?_
      refine x_nil ?_
      refine n_then ?_
      refine x_if rfl ?_ ?_
      · intro c5
        rw [if_pos c5] at htk
        refine x_region ?_
        refine s_val rfl (v_move rfl) ?_
        refine s_val rfl (v_fieldAddr rfl Tryz.underlying99 rfl Tryz.sizeOf53 rfl (by first | exact Nat.zero_add _ | rfl)) ?_
        refine s_val rfl (v_load Tryz.isAgg53 rfl (cell_own rfl)) ?_
        refine s_val rfl (v_conv Tryz.underlying53 Tryz.underlying3 rfl (w64 (by omega))) ?_
        refine s_val rfl (v_add rfl rfl (by rw [w64 (by omega)]; omega : IntKind.wrap .i64 (((lenW (l.take i) w : Nat) : Int) + ((l[i].len : Nat) : Int)) = ((lenW (l.take i) w + l[i].len : Nat) : Int))) ?_
        refine s_val rfl (v_assign rfl) ?_
        refine x_nil ?_
        refine n_block ?_
        refine n_then ?_
        refine x_region ?_
        refine s_val rfl (v_add rfl rfl (by first | exact w64 (by omega) | rfl)) ?_
        refine s_val rfl (v_move rfl) ?_
        refine x_nil ?_
        refine n_then ?_
        refine inv_intro (i + 1) ?_ ?_ ?_ ?_
        · omega
        · omega
        · rw [htk]; repeat (first | exact sub_nil | refine sub_cons rfl ?_)
        · exact inferInstance
      · intro c5
        rw [if_neg c5, Nat.add_zero] at htk
        refine x_skip ?_
        refine n_block ?_
        refine n_then ?_
        refine x_region ?_
        refine s_val rfl (v_add rfl rfl (by first | exact w64 (by omega) | rfl)) ?_
        refine s_val rfl (v_move rfl) ?_
        refine x_nil ?_
        refine n_then ?_
        refine inv_intro (i + 1) ?_ ?_ ?_ ?_
        · omega
        · omega
        · rw [htk]; repeat (first | exact sub_nil | refine sub_cons rfl ?_)
        · exact inferInstance
    · intro c3
      refine x_exit ?_
      refine e_then ?_
      refine e_then ?_
      refine e_block ?_
      refine n_then ?_
      refine x_seq ?_
      refine x_region ?_
      refine s_val rfl (v_move rfl) ?_
      refine s_val rfl (v_assign rfl) ?_
      refine x_nil ?_
      refine n_then ?_
      refine x_ret ?_
      refine x_done (.inl rfl) (.cons (r_tmp rfl) .nil) ?_
      refine ⟨_, ⟨?_, rfl⟩, inferInstance⟩
      obtain rfl : i = l.length := by omega
      rw [List.take_of_length_le (Nat.le_refl _)]; rfl
theorem chLen_spec (W0 : World) (R : List HP) (a : Option Addr) (c : Nat) (l : List Dsc) (w : Bool) (hl : ∀ d ∈ l, d.ok) (hn : l.length ≤ 1000) :
    Spec Tryz.prog W0 185 [.slice a l.length c, .bool w] (osl 99 4 (.slice a l.length c) (l.flatMap dsV) :: R) (fun v B => v = .int .i64 (lenW l w : Nat) ∧ B = osl 99 4 (.slice a l.length c) (l.flatMap dsV) :: R) :=
  spec_sla (h := tk_here) dsV l (fun _ => rfl) (by decide) rfl (fun hs => chLen_sla W0 _ a c l w hl hn hs)
theorem rcWrites_spec (W0 : World) (R : List HP) (d : Dsc) (hd : d.ok) : Spec Tryz.prog W0 196 [.agg (dsV d).toArray] R (fun v B => v = .bool (wrB d) ∧ B = R) := by
  have h1 := hd.flags
  refine spec_body Tryz.func196 Tryz.ntmps196 rfl rfl ?_
  refine x_seq ?_
  refine x_region ?_
  refine s_do rfl (d_boxA rfl) ?_
  rintro _ _ ⟨b1, rfl, rfl⟩
  refine s_val rfl (v_assign rfl) ?_
  refine x_nil ?_
  refine n_then ?_
  refine x_seq ?_
  refine x_region ?_
  refine s_val rfl (v_fieldAddr rfl Tryz.underlying99 rfl Tryz.sizeOf53 rfl (by first | exact Nat.zero_add _ | rfl)) ?_
  refine s_val rfl (v_load Tryz.isAgg53 rfl (cell_own rfl)) ?_
  refine s_val rfl (v_quo rfl rfl (by decide) ((congrArg (IntKind.wrap .u32) (tdivN d.flags 2)).trans (w32u (by omega)))) ?_
  refine s_val rfl (v_rem rfl rfl (by decide) (tmodN (d.flags / 2) 2)) ?_
  refine s_val rfl (v_eql rfl rfl) ?_
  refine s_val rfl (v_assign rfl) ?_
  refine x_nil ?_
  refine n_then ?_
  refine x_ret ?_
  refine x_done (.inl rfl) (.cons (r_tmp rfl) .nil) ?_
  refine ⟨_, ⟨?_, rfl⟩, inferInstance⟩
  refine congrArg Value.bool ?_
  rw [Bool.eq_iff_iff, beq_iff_eq, wrB, decide_eq_true_iff]; omega
theorem wkSt_ok {fr : List Frm} (hF : Frs fr) (pg : List Pl) (r : Rg3) (head : Int) : ∀ n, ∀ d ∈ (wkSt fr pg r head n).2.2, d.ok
  | 0, d, hd => by simp [wkSt] at hd
  | n + 1, d, hd => by
    rw [wkSt] at hd
    rcases List.mem_append.1 hd with h | h
    · exact wkSt_ok hF pg r head n d h
    · obtain rfl := List.mem_singleton.1 h
      exact lk_ok hF _ _ _ _ _
theorem wkGo_or {fr : List Frm} {pg : List Pl} {r : Rg3} {head : Int} : ∀ f n, (∃ c, wkGo fr pg r head f n = ([], c) ∧ c ≠ 0) ∨ ∃ m, m < n + f ∧ wkGo fr pg r head f n = ((wkSt fr pg r head (m + 1)).2.2, 0) ∧ (lkN fr pg r head m).2 = 0 ∧ goB (lkN fr pg r head m).1 = false ∧ ∀ k, n ≤ k → k < m → (lkN fr pg r head k).2 = 0 ∧ goB (lkN fr pg r head k).1 = true
  | 0, n => .inl ⟨2, rfl, by decide⟩
  | f + 1, n => by
    rw [wkGo]
    by_cases h1 : (lkN fr pg r head n).2 ≠ 0
    · rw [if_pos h1]; exact .inl ⟨_, rfl, h1⟩
    rw [if_neg h1]
    by_cases h2 : goB (lkN fr pg r head n).1 = true
    · rw [if_pos h2]
      rcases wkGo_or f (n + 1) with h | ⟨m, hm, he, h3, h4, h5⟩
      · exact .inl h
      · refine .inr ⟨m, by omega, he, h3, h4, fun k hk hkm => ?_⟩
        rcases Nat.lt_or_ge n k with q | q
        · exact h5 k (by omega) hkm
        · rw [show k = n by omega]; exact ⟨Decidable.not_not.1 h1, h2⟩
    · rw [if_neg h2]
      exact .inr ⟨n, by omega, rfl, Decidable.not_not.1 h1, by simpa using h2, fun k hk hkm => by omega⟩
/-- What a walk gives: nothing with a fault, or a whole chain. -/
theorem wkAll_or (fr : List Frm) (pg : List Pl) (r : Rg3) (head : Int) : (∃ c, wkAll fr pg r head = ([], c) ∧ c ≠ 0) ∨ ∃ m, m < 9 ∧ wkAll fr pg r head = ((wkSt fr pg r head (m + 1)).2.2, 0) ∧ alive fr pg r head m ∧ (lkN fr pg r head m).2 = 0 ∧ goB (lkN fr pg r head m).1 = false := by
  unfold wkAll; split
  · rcases wkGo_or (fr := fr) (pg := pg) (r := r) (head := head) 9 0 with h | ⟨m, hm, he, h3, h4, h5⟩
    · exact .inl h
    · exact .inr ⟨m, by omega, he, fun k hk => h5 k (Nat.zero_le _) hk, h3, h4⟩
  · exact .inl ⟨5, rfl, by decide⟩
theorem wkAll_ok {fr : List Frm} (hF : Frs fr) (pg : List Pl) (r : Rg3) (head : Int) : (∀ d ∈ (wkAll fr pg r head).1, d.ok) ∧ (wkAll fr pg r head).1.length ≤ 9 := by
  rcases wkAll_or fr pg r head with ⟨c, h, _⟩ | ⟨m, hm, h, _⟩
  · rw [h]; exact ⟨fun d hd => by simp at hd, by simp⟩
  · rw [h]; exact ⟨wkSt_ok hF _ _ _ _, by rw [wkSt_len]; omega⟩
end Go.Proofs.YtechkfopkpkigaaGreat
