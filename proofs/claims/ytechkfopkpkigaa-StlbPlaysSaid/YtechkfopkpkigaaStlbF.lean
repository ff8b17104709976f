/-
  Layer 18 (stlb): Narrow, Gone, Flush.
-/
import Derived.Test.YtechkfopkpkigaaStlbE
namespace Go.Proofs.Ytechkfopkpkigaa
open Go.RowKit
set_option linter.unusedSimpArgs false
set_option linter.unusedVariables false
set_option maxRecDepth 20000

/-! ### The bit of writing -/
def i64 (r : Int) : Prop := -9223372036854775808 ≤ r ∧ r < 9223372036854775808
theorem toNat_ofInt64 (r : Int) : ((BitVec.ofInt 64 r).toNat : Int) = r % 18446744073709551616 := by
  rw [BitVec.toNat_ofInt]; omega
theorem nand2 (n : Nat) : n &&& 2 = 2 * (n / 2 % 2) := by
  apply Nat.eq_of_testBit_eq
  intro i
  rw [Nat.testBit_and, show (2 : Nat) = 2 ^ 1 from rfl, Nat.testBit_two_pow, Nat.testBit_two_pow_mul]
  by_cases h : i = 1
  · subst h
    simp only [Nat.testBit, Nat.shiftRight_eq_div_pow]
    simp
  · by_cases h1 : 1 ≤ i
    · have h2 : n / 2 ^ 1 % 2 ^ 1 < 2 ^ (i - 1) := Nat.lt_of_lt_of_le (Nat.mod_lt _ (by decide)) (Nat.pow_le_pow_right (by decide) (by omega))
      simp [Nat.testBit_lt_two_pow h2, show ¬ 1 = i by omega]
    · simp [h1, show ¬ 1 = i by omega]
theorem bAnd_2 {r : Int} (h : i64 r) : bAnd .i64 r 2 = 2 * (r / 2 % 2) := by
  have hn := toNat_ofInt64 r
  show IntKind.wrap .i64 ((BitVec.ofInt 64 r &&& BitVec.ofInt 64 2).toNat : Int) = _
  rw [BitVec.toNat_and, show (BitVec.ofInt 64 2).toNat = 2 from rfl, nand2, w64 (by omega)]
  push_cast
  omega
theorem bAndNot_2 {r : Int} (h : i64 r) : bAndNot .i64 r 2 = r - 2 * (r / 2 % 2) := by
  have hn := toNat_ofInt64 r
  generalize hx : BitVec.ofInt 64 r = x at hn
  have e : (x &&& ~~~ BitVec.ofInt 64 2).toNat = x.toNat - (x.toNat &&& 2) := by
    have hz : (x &&& ~~~ BitVec.ofInt 64 2) &&& (x &&& BitVec.ofInt 64 2) = 0#64 := by
      ext i hi
      simp only [BitVec.getElem_and, BitVec.getElem_not, BitVec.getElem_zero]
      cases x[i] <;> cases (BitVec.ofInt 64 2)[i] <;> rfl
    have h1 : (x &&& ~~~ BitVec.ofInt 64 2) + (x &&& BitVec.ofInt 64 2) = x := by
      rw [BitVec.add_eq_or_of_and_eq_zero _ _ hz]
      ext i hi
      simp only [BitVec.getElem_or, BitVec.getElem_and, BitVec.getElem_not]
      cases x[i] <;> cases (BitVec.ofInt 64 2)[i] <;> rfl
    have h2 := congrArg BitVec.toNat h1
    rw [BitVec.toNat_add_of_and_eq_zero hz, BitVec.toNat_and x (BitVec.ofInt 64 2), show (BitVec.ofInt 64 2).toNat = 2 from rfl] at h2
    omega
  show IntKind.wrap .i64 ((BitVec.ofInt 64 r &&& ~~~ BitVec.ofInt 64 2).toNat : Int) = _
  rw [hx, e, nand2]
  have hlt := x.isLt
  obtain ⟨h1, h2⟩ := h
  simp only [IntKind.wrap, IntKind.bits, IntKind.signed]
  simp
  omega
def wB (r : Int) : Bool := decide (r / 2 % 2 = 1)
theorem wB_and {r : Int} (h : i64 r) : (bAnd .i64 r 2 ≠ 0) ↔ wB r = true := by rw [bAnd_2 h, wB, decide_eq_true_iff]; omega
theorem noW_eq {r : Int} (h : i64 r) : bAndNot .i64 r 2 = if wB r then r - 2 else r := by
  rw [bAndNot_2 h, wB]; split <;> simp_all <;> omega
def hit (page : Int) (x : It) : Bool := decide (x.ep = page) && wB x.er
def narI (page : Int) (x : It) : It := if hit page x then { x with er := x.er - 2 } else x
theorem narI_key (page : Int) (x : It) : (narI page x).key = x.key := by unfold narI; split <;> rfl
theorem narI_u (page : Int) (x : It) : (narI page x).u = x.u := by unfold narI; split <;> rfl
theorem narI_i64 {page : Int} {x : It} (h : i64 x.er) : i64 (narI page x).er := by
  unfold narI; split
  · rename_i hh
    simp only [hit, wB, Bool.and_eq_true, decide_eq_true_iff] at hh
    obtain ⟨h1, h2⟩ := h
    refine ⟨?_, ?_⟩
    · show -9223372036854775808 ≤ x.er - 2; omega
    · show x.er - 2 < 9223372036854775808; omega
  · exact h
theorem item_setE (its : List It) (sp : List Value) (i : Nat) (r : Int) (hi : i < its.length) : (its.flatMap itemV ++ sp).set (i * 6 + 4) (.int .i64 r) = (its.set i { its.getD i default with er := r }).flatMap itemV ++ sp :=
  flat_set1 itemV_len its i 4 _ _ sp hi (by decide) (by simp [List.getD, hi, itemV])

/-- The first ones are narrowed. -/
structure NarI (page : Int) (its l : List It) (i n : Nat) : Prop where
  len : l.length = its.length
  il : i ≤ its.length
  front : l.take i = (its.take i).map (narI page)
  back : ∀ k, i ≤ k → l.getD k default = its.getD k default
  cnt : n = ((its.take i).filter (hit page)).length
theorem NarI.step {page : Int} {its l : List It} {i n : Nat} (h : NarI page its l i n) (hi : i < its.length) : NarI page its (l.set i (narI page (l.getD i default))) (i + 1) (n + if hit page (l.getD i default) then 1 else 0) := by
  have hl := h.len
  have hb := h.back i (Nat.le_refl _)
  have hg : its.getD i default = its[i] := by simp [List.getD, hi]
  refine ⟨by rw [List.length_set]; exact hl, by omega, ?_, fun k hk => ?_, ?_⟩
  · rw [List.take_succ_eq_append_getElem (by rw [List.length_set]; omega), List.getElem_set_self, List.take_set_of_le (Nat.le_refl _), h.front, List.take_succ_eq_append_getElem hi, List.map_append, hb, hg]; rfl
  · rw [← h.back k (by omega)]
    simp only [List.getD_eq_getElem?_getD]
    rw [List.getElem?_set_ne (by omega)]
  · rw [List.take_succ_eq_append_getElem hi, List.filter_append, List.length_append, ← h.cnt, hb, hg]
    cases hh : hit page its[i] <;> simp [hh]
theorem NarI.skip {page : Int} {its l : List It} {i n : Nat} (h : NarI page its l i n) (hi : i < its.length) (hh : hit page (l.getD i default) = false) : NarI page its l (i + 1) n := by
  have := h.step hi
  rw [narI, hh, if_neg (by decide), if_neg (by decide), Nat.add_zero] at this
  have hs : l.set i (l.getD i default) = l := by
    have hl : i < l.length := by rw [h.len]; exact hi
    rw [show l.getD i default = l[i] by simp [List.getD, hl], List.set_getElem_self]
  rwa [hs] at this
theorem NarI.hits {page : Int} {its l : List It} {i n : Nat} (h : NarI page its l i n) (hi : i < its.length) (hh : hit page (l.getD i default) = true) : NarI page its (l.set i { l.getD i default with er := (l.getD i default).er - 2 }) (i + 1) (n + 1) := by
  have := h.step hi
  rw [narI, hh, if_pos rfl, if_pos rfl] at this
  exact this
def nrN (page : Int) (L : List It) : Nat := (L.filter (hit page)).length
theorem us_map {l : List It} {f : It → It} (hf : ∀ x, (f x).u = x.u) {i : Nat} (hi : i < l.length) : us (l.map f) i = us l i := by
  rw [us_eq (by simpa using hi), us_eq hi]; simp [hf]
theorem Rep.nar {its L : List It} {now : Nat} (h : Rep its now L) (page : Int) : Rep (its.map (narI page)) now (L.map (narI page)) := by
  refine ⟨h.perm.map _, fun c hc h0 => ?_, ?_, fun x hx => ?_, ?_⟩
  · rw [List.length_map] at hc
    rw [us_map (narI_u page) (by omega), us_map (narI_u page) hc]
    exact h.heap c hc h0
  · rw [List.pairwise_map]
    exact h.sort.imp fun {a b} hab => by rw [narI_u, narI_u]; exact hab
  · obtain ⟨y, hy, rfl⟩ := List.mem_map.1 hx
    rw [narI_u]; exact h.le y hy
  · rw [List.map_map, show It.key ∘ narI page = It.key from funext fun x => narI_key page x]
    exact h.keys
theorem Narrow_spec18 (W0 : World) (R : List HP) (b : Nat) (its : List It) (rm nw : Value) (page : Int) (hN : its.length < 1000) (hr : ∀ x ∈ its, i64 x.er) :
    Spec Try.prog W0 31 [.pointer (some ⟨b, 0, none⟩), .int .i64 page] (rowH b (its, [rm, nw, .bool true]) :: R)
      (fun v B => v = .int .i64 (nrN page its : Nat) ∧ B = rowH b (its.map (narI page), [rm, nw, .bool true]) :: R) := by
  refine spec_body Try.func31 Try.ntmps31 rfl rfl ?_
  refine x_seq ?_
  refine x_region ?_
  refine s_val rfl (v_assign rfl) ?_
  refine x_nil ?_
  refine n_then ?_
  refine x_seq ?_
  refine x_seq ?_
  refine x_region ?_
  refine s_val rfl (v_move rfl) ?_
  refine s_do rfl (d_call1 Try.call86 rfl (none_spec W0 _ b its rm nw)) ?_
  rintro _ B_ ⟨rfl, hB_⟩
  obtain rfl := hB_.symm
  refine x_nil ?_
  refine n_then ?_
  refine x_if rfl ?_ ?_
  · intro c1
    exact absurd c1 (by decide)
  · intro c1
    refine x_skip ?_
    refine n_then ?_
    refine x_seq ?_
    refine x_region ?_
    refine s_val rfl (v_assign rfl) ?_
    refine x_nil ?_
    refine n_then ?_
    refine x_seq ?_
    refine x_seq ?_
    refine run_row (b := b) fun a0 c0 => ?_
    refine x_region ?_
    refine s_val rfl (v_move rfl) ?_
    refine s_val rfl (v_nilCheck rfl) ?_
    refine s_val rfl (v_fieldAddr rfl Try.underlying87 rfl Try.sizeOf85 rfl (by first | exact Nat.zero_add _ | rfl)) ?_
    refine s_val rfl (v_fieldAddr rfl Try.underlying85 rfl Try.sizeOf83 rfl (by first | exact Nat.zero_add _ | rfl)) ?_
    refine s_val rfl (v_load Try.isAgg83 rfl (cell_own rfl)) ?_
    refine s_val rfl (v_len_slice Try.underlying83 rfl) ?_
    refine s_val rfl (v_move rfl) ?_
    refine x_nil ?_
    refine n_then ?_
    refine x_block ?_
    refine x_loop (fun X : List It × Nat × Nat => NarI page its X.1 X.2.1 X.2.2) (fun X => [(0, .pointer (some ⟨b, 0, none⟩)), (1, .int .i64 page), (5, .int .i64 X.2.2), (15, .int .i64 (its.length : Nat)), (16, .int .i64 X.2.1)]) (fun X => rowH b (X.1, [rm, nw, .bool true]) :: R) (fun X => its.length - X.2.1) (its, 0, 0) ?_ ?_ ?_ ?_
    · exact ⟨rfl, Nat.zero_le _, by simp, fun _ _ => rfl, by simp⟩
    · repeat (first | exact sub_nil | refine sub_cons rfl ?_)
    · exact ent_row rfl
    · intro ⟨l, i, n⟩ hD
      dsimp only at hD ⊢
      have hl := hD.len
      have hil := hD.il
      have hcn : n ≤ its.length := by
        rw [hD.cnt]
        exact Nat.le_trans (List.length_filter_le _ _) (by rw [List.length_take]; omega)
      refine x_seq ?_
      refine x_region ?_
      refine s_val rfl (v_lss rfl rfl) ?_
      refine x_nil ?_
      refine n_then ?_
      refine x_seq ?_
      refine x_if rfl ?_ ?_
      · intro c5
        have hil1 : i < l.length := by omega
        have hei : i64 (l.getD i default).er := by
          rw [hD.back i (Nat.le_refl _)]
          have hi2 : i < its.length := by omega
          have := hr _ (List.getElem_mem hi2)
          rwa [show its.getD i default = its[i] by simp [List.getD, hi2]]
        refine run_rowN (b := b) (pos_ne hil1) fun g c sp k1 k2 k3 => ?_
        refine x_skip ?_
        refine n_then ?_
        refine x_cut (fun Z : List It × Nat => NarI page its Z.1 (i + 1) Z.2) (fun Z => [(0, .pointer (some ⟨b, 0, none⟩)), (1, .int .i64 page), (5, .int .i64 Z.2), (15, .int .i64 (its.length : Nat)), (16, .int .i64 i)]) (fun Z => rowH b (Z.1, [rm, nw, .bool true]) :: R) ?_ ?_
        · skip
          refine x_block ?_
          refine x_seq ?_
          refine x_region ?_
          refine s_val rfl (v_move rfl) ?_
          refine s_val rfl (v_assign rfl) ?_
          refine x_nil ?_
          refine n_then ?_
          refine x_seq ?_
          refine x_region ?_
          refine s_val rfl (v_move rfl) ?_
          refine s_val rfl (v_nilCheck rfl) ?_
          refine s_val rfl (v_fieldAddr rfl Try.underlying87 rfl Try.sizeOf85 rfl (by first | exact Nat.zero_add _ | rfl)) ?_
          refine s_val rfl (v_fieldAddr rfl Try.underlying85 rfl Try.sizeOf83 rfl (by first | exact Nat.zero_add _ | rfl)) ?_
          refine s_val rfl (v_load Try.isAgg83 rfl (cell_own rfl)) ?_
          refine s_val rfl (v_move rfl) ?_
          refine s_val rfl (v_idx Try.underlying83 Try.sizeOf171 rfl rfl rfl hil1 (by first | exact Nat.zero_add _ | rfl)) ?_
          refine s_val rfl (v_fieldAddr rfl Try.underlying171 rfl Try.sizeOf80 rfl (by first | exact Nat.zero_add _ | rfl)) ?_
          refine s_val rfl (v_fieldAddr rfl Try.underlying80 rfl Try.sizeOf75 rfl (by first | exact Nat.zero_add _ | rfl)) ?_
          refine s_val rfl (v_assign rfl) ?_
          refine x_nil ?_
          refine n_then ?_
          refine x_seq ?_
          refine x_region ?_
          refine s_val rfl (v_move rfl) ?_
          refine s_val rfl (v_nilCheck rfl) ?_
          refine s_val rfl (v_fieldAddr rfl Try.underlying75 rfl Try.sizeOf3 rfl (by first | exact Nat.zero_add _ | rfl)) ?_
          refine s_val rfl (v_load Try.isAgg3 rfl (cell_own ((item_get l sp i 2 hil1 (by decide)).trans rfl))) ?_
          refine s_val rfl (v_move rfl) ?_
          refine s_val rfl (v_eql rfl rfl) ?_
          refine s_val rfl (v_move rfl) ?_
          refine s_and rfl rfl rfl ?_ ?_
          · intro g8_7
            refine s_val rfl (v_move rfl) ?_
            refine s_yes rfl rfl ?_
            refine s_val rfl (v_nilCheck rfl) ?_
            refine s_yes rfl rfl ?_
            refine s_val rfl (v_fieldAddr rfl Try.underlying75 rfl Try.sizeOf3 rfl (by first | exact Nat.zero_add _ | rfl)) ?_
            refine s_yes rfl rfl ?_
            refine s_val rfl (v_load Try.isAgg3 rfl (cell_own ((item_get l sp i 4 hil1 (by decide)).trans rfl))) ?_
            refine s_yes rfl rfl ?_
            refine s_val rfl (v_and rfl rfl rfl) ?_
            refine s_yes rfl rfl ?_
            refine s_val rfl (v_neq rfl rfl) ?_
            refine s_val rfl (v_pick_t rfl rfl) ?_
            refine x_nil ?_
            refine n_then ?_
            refine x_if rfl ?_ ?_
            · intro c8
              refine x_seq ?_
              refine x_region ?_
              refine s_val rfl (v_move rfl) ?_
              refine s_val rfl (v_nilCheck rfl) ?_
              refine s_val rfl (v_fieldAddr rfl Try.underlying75 rfl Try.sizeOf3 rfl (by first | exact Nat.zero_add _ | rfl)) ?_
              refine s_val rfl (v_load Try.isAgg3 rfl (cell_own ((item_get l sp i 4 hil1 (by decide)).trans rfl))) ?_
              refine s_val rfl (v_andNot rfl rfl (by rw [noW_eq hei, if_pos ((wB_and hei).1 (by simpa using c8))] : bAndNot .i64 (l.getD i default).er 2 = (l.getD i default).er - 2)) ?_
              refine s_val rfl (v_nilCheck rfl) ?_
              refine s_val rfl (v_fieldAddr rfl Try.underlying75 rfl Try.sizeOf3 rfl (by first | exact Nat.zero_add _ | rfl)) ?_
              refine s_do0 (d_store Try.sizeOf3 rfl rfl rfl (by have := item_bd l sp i hil1; omega) (item_setE l sp i ((l.getD i default).er - 2) hil1)) ?_
              rintro _ _ rfl
              refine x_nil ?_
              refine n_then ?_
              refine x_region ?_
              refine s_val rfl (v_move rfl) ?_
              refine s_val rfl (v_add rfl rfl (by rw [w64 (by omega)]; omega : IntKind.wrap .i64 ((n : Int) + 1) = ((n + 1 : Nat) : Int))) ?_
              refine s_val rfl (v_assign rfl) ?_
              refine x_nil ?_
              refine n_block ?_
              refine n_then ?_
              refine mid_intro (l.set i { l.getD i default with er := (l.getD i default).er - 2 }, n + 1) ?_ ?_ ?_
              · have hw := (wB_and hei).1 (by simpa using c8)
                exact hD.hits (by omega) (by simp only [hit, Bool.and_eq_true, decide_eq_true_iff]; exact ⟨by omega, hw⟩)
              · repeat (first | exact sub_nil | refine sub_cons rfl ?_)
              · exact ent_rowN (b := b) rfl (by rw [List.length_set]) (by omega) k2 (by rw [← k3]; simp [flat_len itemV_len])
            · intro c8
              refine x_skip ?_
              refine n_block ?_
              refine n_then ?_
              refine mid_intro (l, n) ?_ ?_ ?_
              · refine hD.skip (by omega) ?_
                first
                  | (have hne : ¬ (l.getD i default).ep = page := by omega
                     rw [hit, decide_eq_false hne]; rfl)
                  | (have hw : ¬ wB (l.getD i default).er = true := fun q => absurd ((wB_and hei).2 q) (by simpa using c8)
                     have hw' : wB (l.getD i default).er = false := by simpa using hw
                     rw [hit, hw', Bool.and_false])
              · repeat (first | exact sub_nil | refine sub_cons rfl ?_)
              · exact ent_rowN (b := b) rfl rfl (by omega) k2 k3
          · intro g8_7
            refine s_no rfl rfl rfl rfl ?_
            refine s_no rfl rfl rfl rfl ?_
            refine s_no rfl rfl rfl rfl ?_
            refine s_no rfl rfl rfl rfl ?_
            refine s_no rfl rfl rfl rfl ?_
            refine s_val rfl (v_pick_f rfl rfl) ?_
            refine x_nil ?_
            refine n_then ?_
            refine x_iff rfl ?_
            refine x_skip ?_
            refine n_block ?_
            refine n_then ?_
            refine mid_intro (l, n) ?_ ?_ ?_
            · refine hD.skip (by omega) ?_
              first
                | (have hne : ¬ (l.getD i default).ep = page := by omega
                   rw [hit, decide_eq_false hne]; rfl)
                | (have hw : ¬ wB (l.getD i default).er = true := fun q => absurd ((wB_and hei).2 q) (by simpa using c8)
                   have hw' : wB (l.getD i default).er = false := by simpa using hw
                   rw [hit, hw', Bool.and_false])
            · repeat (first | exact sub_nil | refine sub_cons rfl ?_)
            · exact ent_rowN (b := b) rfl rfl (by omega) k2 k3
        · intro ⟨l2, n2⟩ hD2
          refine x_region ?_
          refine s_val rfl (v_add rfl rfl (by first | exact w64 (by omega) | rfl)) ?_
          refine s_val rfl (v_move rfl) ?_
          refine x_nil ?_
          refine n_then ?_
          refine inv_intro (l2, i + 1, n2) ?_ ?_ ?_ ?_
          · exact hD2
          · show its.length - (i + 1) < its.length - i; omega
          · repeat (first | exact sub_nil | refine sub_cons rfl ?_)
          · exact inferInstance
      · intro c5
        refine x_exit ?_
        refine e_then ?_
        refine e_then ?_
        refine e_block ?_
        refine n_then ?_
        refine x_seq ?_
        refine x_region ?_
        refine s_val rfl (v_move rfl) ?_
        refine s_val rfl (v_assign rfl) ?_
        refine x_nil ?_
        refine n_then ?_
        refine x_ret ?_
        refine x_done (.inl rfl) (.cons (r_tmp rfl) .nil) ?_
        obtain rfl : i = its.length := by omega
        have hfr := hD.front
        have hct := hD.cnt
        rw [List.take_of_length_le (by omega), List.take_of_length_le (Nat.le_refl _)] at hfr
        rw [List.take_of_length_le (Nat.le_refl _)] at hct
        rw [hct, hfr]
        exact ⟨_, ⟨rfl, rfl⟩, inferInstance⟩

/-! ### What is forgotten -/
theorem Rep.keep {its its' L : List It} {now : Nat} {p : It → Bool} (h : Rep its now L) (hp : its'.Perm (keepL p its)) (hh : Heap its' its'.length) : Rep its' now (keepL p L) :=
  ⟨hp.trans (h.perm.filter _), hh, h.sort.filter _, fun x hx => h.le x (List.mem_filter.1 hx).1, List.Sublist.nodup (List.Sublist.map _ List.filter_sublist) h.keys⟩
theorem keep_perm_len {its L : List It} {p : It → Bool} (h : its.Perm L) : (keepL p its).length = (keepL p L).length := (h.filter _).length_eq
theorem keep_le (p : It → Bool) (l : List It) : (keepL p l).length ≤ l.length := List.length_filter_le _ _
theorem forget_spec (W0 : World) (R : List HP) (b : Nat) (its : List It) (tl : List Value) (f : FuncId) (cs : List Value) (C : HP) (p : It → Bool) (hp : PF W0 f cs C p) (hN : its.length < 1000) :
    Spec Try.prog W0 97 [.pointer (some ⟨b, 0, none⟩), .func (.func f) #[] cs.toArray] (rowH b (its, tl) :: kH 0 C :: R)
      (fun v B => ∃ l, v = .int .i64 (its.length - (keepL p its).length : Nat) ∧ B = rowH b (l, tl) :: kH 0 C :: R ∧ l.Perm (keepL p its) ∧ Heap l l.length) := by
  have hkl := keep_le p its
  refine spec_body Try.func97 Try.ntmps97 rfl rfl ?_
  refine x_seq ?_
  refine x_region ?_
  refine s_val rfl (v_assign rfl) ?_
  refine x_nil ?_
  refine n_then ?_
  refine x_seq ?_
  refine x_region ?_
  refine s_val rfl (v_move rfl) ?_
  refine s_val rfl (v_nilCheck rfl) ?_
  refine s_val rfl (v_fieldAddr rfl Try.underlying87 rfl Try.sizeOf85 rfl (by first | exact Nat.zero_add _ | rfl)) ?_
  refine s_do rfl (d_call1 Try.call91 rfl (rowLen_spec W0 _ b its tl)) ?_
  rintro _ B_ ⟨rfl, hB_⟩
  obtain rfl := hB_.symm
  refine s_val rfl (v_assign rfl) ?_
  refine x_nil ?_
  refine n_then ?_
  refine x_seq ?_
  refine run_row (b := b) fun a c => ?_
  refine run_sla (E := 171) (sz := 6) (a := a) (n := its.length) (c := c) itemV its itemV_len (by decide) rfl (fun hs => ?_)
  refine x_region ?_
  refine s_val rfl (v_move rfl) ?_
  refine s_val rfl (v_move rfl) ?_
  refine s_val rfl (v_nilCheck rfl) ?_
  refine s_val rfl (v_fieldAddr rfl Try.underlying87 rfl Try.sizeOf85 rfl (by first | exact Nat.zero_add _ | rfl)) ?_
  refine s_val rfl (v_fieldAddr rfl Try.underlying85 rfl Try.sizeOf83 rfl (by first | exact Nat.zero_add _ | rfl)) ?_
  refine s_val rfl (v_load Try.isAgg83 rfl (cell_own rfl)) ?_
  refine s_do rfl (d_call Try.call152 rfl (cloneIt_spec W0 _ its a c hN hs)) ?_
  rintro _ B_ ⟨a2, c2, rfl, hB_⟩
  obtain rfl := hB_.symm
  refine s_val rfl (v_move rfl) ?_
  refine s_do rfl (d_call2 Try.call151 rfl (deleteF_spec W0 _ its a2 c2 f cs C p hp hN)) ?_
  rintro _ B_ ⟨a3, c3, rfl, hB_⟩
  obtain rfl := hB_.symm
  refine s_val rfl (v_nilCheck rfl) ?_
  refine s_val rfl (v_fieldAddr rfl Try.underlying87 rfl Try.sizeOf85 rfl (by first | exact Nat.zero_add _ | rfl)) ?_
  refine s_val rfl (v_fieldAddr rfl Try.underlying85 rfl Try.sizeOf83 rfl (by first | exact Nat.zero_add _ | rfl)) ?_
  refine s_do0 (d_store Try.sizeOf83 rfl rfl rfl (Nat.le_of_ble_eq_true rfl) SetL.eq) ?_
  rintro _ _ rfl
  refine x_nil ?_
  refine n_then ?_
  refine x_seq ?_
  refine run_ent (B := rowH b (keepL p its, tl) :: kH 0 C :: R) (ent_row rfl) ?_
  refine x_region ?_
  refine s_val rfl (v_move rfl) ?_
  refine s_val rfl (v_nilCheck rfl) ?_
  refine s_val rfl (v_fieldAddr rfl Try.underlying87 rfl Try.sizeOf85 rfl (by first | exact Nat.zero_add _ | rfl)) ?_
  refine s_val rfl (v_mkI Try.underlying174 (fun _ h => nomatch h) rfl) ?_
  refine s_do rfl (d_call1 Try.call153 rfl (heapInit_spec W0 _ b (keepL p its) tl (by omega))) ?_
  rintro _ B_ ⟨l, rfl, hB_, hp2, hh⟩
  obtain rfl := hB_.symm
  have hll := hp2.length_eq
  refine x_nil ?_
  refine n_then ?_
  refine x_seq ?_
  refine x_region ?_
  refine s_val rfl (v_move rfl) ?_
  refine s_val rfl (v_move rfl) ?_
  refine s_val rfl (v_nilCheck rfl) ?_
  refine s_val rfl (v_fieldAddr rfl Try.underlying87 rfl Try.sizeOf85 rfl (by first | exact Nat.zero_add _ | rfl)) ?_
  refine s_do rfl (d_call1 Try.call91 rfl (rowLen_spec W0 _ b l tl)) ?_
  rintro _ B_ ⟨rfl, hB_⟩
  obtain rfl := hB_.symm
  refine s_val rfl (v_sub rfl rfl (by rw [w64 (by omega)]; omega : IntKind.wrap .i64 ((its.length : Int) - (l.length : Int)) = ((its.length - (keepL p its).length : Nat) : Int))) ?_
  refine s_val rfl (v_assign rfl) ?_
  refine x_nil ?_
  refine n_then ?_
  refine x_ret ?_
  refine x_done (.inl rfl) (.cons (r_tmp rfl) .nil) ?_
  exact ⟨_, ⟨l, rfl, rfl, hp2, hh⟩, inferInstance⟩
theorem gone1_pf (W0 : World) (bk : Nat) (page : Int) : PF W0 98 [.pointer (some ⟨bk, 0, none⟩)] (grp [pt bk (cob [.int .i64 page] 3)]) (fun x => decide (x.ep = page)) := ⟨Try.call98, fun x R => by
  refine spec_kgrp ?_
  simp only [List.cons_append, List.nil_append]
  refine spec_body Try.func98 Try.ntmps98 rfl rfl ?_
  refine x_seq ?_
  refine x_region ?_
  refine s_do rfl (d_boxA rfl) ?_
  rintro _ _ ⟨b1, rfl, rfl⟩
  refine s_val rfl (v_assign rfl) ?_
  refine x_nil ?_
  refine n_then ?_
  refine x_seq ?_
  refine x_region ?_
  refine s_val rfl (v_fieldAddr rfl Try.underlying171 rfl Try.sizeOf80 rfl (by first | exact Nat.zero_add _ | rfl)) ?_
  refine s_val rfl (v_fieldAddr rfl Try.underlying80 rfl Try.sizeOf75 rfl (by first | exact Nat.zero_add _ | rfl)) ?_
  refine s_val rfl (v_fieldAddr rfl Try.underlying75 rfl Try.sizeOf3 rfl (by first | exact Nat.zero_add _ | rfl)) ?_
  refine s_val rfl (v_load Try.isAgg3 rfl (cell_own rfl)) ?_
  refine s_val rfl (v_load Try.isAgg3 rfl (cell_own rfl)) ?_
  refine s_val rfl (v_eql rfl rfl) ?_
  refine s_val rfl (v_assign rfl) ?_
  refine x_nil ?_
  refine n_then ?_
  refine x_ret ?_
  refine x_done (.inl rfl) (.cons (r_tmp rfl) .nil) ?_
  refine ⟨_, ⟨?_, rfl⟩, inferInstance⟩
  refine congrArg Value.bool ?_
  rw [Bool.eq_iff_iff, beq_iff_eq, decide_eq_true_iff]
  ⟩
theorem flush1_pf (W0 : World) : PF W0 100 [] (grp []) (fun _ => true) := ⟨Try.call100, fun x R => by
  refine spec_body Try.func100 Try.ntmps100 rfl rfl ?_
  refine x_seq ?_
  refine x_region ?_
  refine s_do rfl (d_boxA rfl) ?_
  rintro _ _ ⟨b1, rfl, rfl⟩
  refine s_val rfl (v_assign rfl) ?_
  refine x_nil ?_
  refine n_then ?_
  refine x_seq ?_
  refine x_region ?_
  refine s_val rfl (v_assign rfl) ?_
  refine x_nil ?_
  refine n_then ?_
  refine x_ret ?_
  refine x_done (.inl rfl) (.cons (r_tmp rfl) .nil) ?_
  exact ⟨_, ⟨rfl, rfl⟩, inferInstance⟩
  ⟩
theorem Gone_spec18 (W0 : World) (R : List HP) (b : Nat) (its : List It) (rm nw : Value) (now : Nat) (L : List It) (page : Int) (hR : Rep its now L) (hN : its.length < 1000) :
    Spec Try.prog W0 32 [.pointer (some ⟨b, 0, none⟩), .int .i64 page] (rowH b (its, [rm, nw, .bool true]) :: R)
      (fun v B => v = .int .i64 (L.length - (keepL (fun x => decide (x.ep = page)) L).length : Nat) ∧ ∃ its', B = rowH b (its', [rm, nw, .bool true]) :: R ∧ Rep its' now (keepL (fun x => decide (x.ep = page)) L)) := by
  have hlen := hR.length
  have hkl := keep_perm_len (p := fun x => decide (x.ep = page)) hR.perm
  refine spec_body Try.func32 Try.ntmps32 rfl rfl ?_
  refine x_seq ?_
  refine x_region ?_
  refine s_do rfl (d_box rfl rfl) ?_
  rintro _ _ ⟨b1, rfl, rfl⟩
  refine s_val rfl (v_assign rfl) ?_
  refine x_nil ?_
  refine n_then ?_
  refine x_seq ?_
  refine x_seq ?_
  refine x_region ?_
  refine s_val rfl (v_move rfl) ?_
  refine s_do rfl (d_call1 Try.call86 rfl (none_spec W0 _ b its rm nw)) ?_
  rintro _ B_ ⟨rfl, hB_⟩
  obtain rfl := hB_.symm
  refine x_nil ?_
  refine n_then ?_
  refine x_if rfl ?_ ?_
  · intro c1
    exact absurd c1 (by decide)
  · intro c1
    refine x_skip ?_
    refine n_then ?_
    refine x_seq ?_
    refine run_ent (B := rowH b (its, [rm, nw, .bool true]) :: kH 0 (grp [pt b1 (cob [.int .i64 page] 3)]) :: R) inferInstance ?_
    refine x_region ?_
    refine s_val rfl (v_move rfl) ?_
    refine s_val rfl (v_mkFunc rfl rfl) ?_
    refine s_do rfl (d_call2 Try.call97 rfl (forget_spec W0 _ b its _ 98 [.pointer (some ⟨b1, 0, none⟩)] _ _ (gone1_pf W0 b1 page) hN)) ?_
    rintro _ B_ ⟨l, rfl, hB_, hp, hh⟩
    obtain rfl := hB_.symm
    rw [hlen, hkl]
    refine s_val rfl (v_assign rfl) ?_
    refine x_nil ?_
    refine n_then ?_
    refine x_ret ?_
    refine x_done (.inl rfl) (.cons (r_tmp rfl) .nil) ?_
    exact ⟨_, ⟨rfl, l, rfl, hR.keep hp hh⟩, inferInstance⟩
theorem keep_all (l : List It) : keepL (fun _ => true) l = [] := by simp [keepL]
theorem Flush_spec18 (W0 : World) (R : List HP) (b : Nat) (its : List It) (rm nw : Value) (now : Nat) (L : List It) (hR : Rep its now L) (hN : its.length < 1000) :
    Spec Try.prog W0 37 [.pointer (some ⟨b, 0, none⟩)] (rowH b (its, [rm, nw, .bool true]) :: R)
      (fun v B => v = .int .i64 (L.length : Nat) ∧ ∃ its', B = rowH b (its', [rm, nw, .bool true]) :: R ∧ Rep its' now []) := by
  have hlen := hR.length
  refine spec_body Try.func37 Try.ntmps37 rfl rfl ?_
  refine x_seq ?_
  refine x_region ?_
  refine s_val rfl (v_assign rfl) ?_
  refine x_nil ?_
  refine n_then ?_
  refine x_seq ?_
  refine x_seq ?_
  refine x_region ?_
  refine s_val rfl (v_move rfl) ?_
  refine s_do rfl (d_call1 Try.call86 rfl (none_spec W0 _ b its rm nw)) ?_
  rintro _ B_ ⟨rfl, hB_⟩
  obtain rfl := hB_.symm
  refine x_nil ?_
  refine n_then ?_
  refine x_if rfl ?_ ?_
  · intro c1
    exact absurd c1 (by decide)
  · intro c1
    refine x_skip ?_
    refine n_then ?_
    refine x_seq ?_
    refine run_ent (B := rowH b (its, [rm, nw, .bool true]) :: kH 0 (grp []) :: R) inferInstance ?_
    refine x_region ?_
    refine s_val rfl (v_move rfl) ?_
    refine s_do rfl (d_call2 Try.call97 rfl (forget_spec W0 _ b its _ 100 [] _ _ (flush1_pf W0) hN)) ?_
    rintro _ B_ ⟨l, rfl, hB_, hp, hh⟩
    obtain rfl := hB_.symm
    rw [keep_all] at hp
    rw [keep_all, hlen]
    refine s_val rfl (v_assign rfl) ?_
    refine x_nil ?_
    refine n_then ?_
    refine x_ret ?_
    refine x_done (.inl rfl) (.cons (r_tmp rfl) .nil) ?_
    have hk := hR.keep (p := fun _ => true) (by rw [keep_all]; exact hp) hh
    rw [keep_all] at hk
    exact ⟨_, ⟨rfl, l, rfl, hk⟩, inferInstance⟩
end Go.Proofs.Ytechkfopkpkigaa
