/-
  Layer 22 (chain): Gather, Scatter.
-/
import Derived.Test.YtpmacnfjafpdcabChainLaw
import Derived.Test.YtpmacnfjafpdcabMove
namespace Go.Proofs.Ytpmacnfjafpdcab
open Go.RowKit
set_option linter.unusedSimpArgs false
set_option linter.unusedVariables false
set_option maxRecDepth 20000

theorem byV_ne {X : List Nat} (h : 0 < X.length) : byV X ≠ [] := fun h0 => by
  have := congrArg List.length h0
  rw [byV_len, List.length_nil] at this; omega
theorem rdO_len {fr : List Frm} {pg : List Pl} {pa : Nat} {n : Int} : (rdO fr pg pa n).length ≤ 512 := by
  unfold rdO; split
  · rename_i h; rw [rdL_len]; have := (ownB_iff.1 h).1; omega
  · simp
/-- How many more may be gathered. -/
def roomN (most : Int) (n : Nat) : Nat := (most - (n : Int)).toNat
def gthK (fr : List Frm) (pg : List Pl) (l : List Dsc) (most : Int) : Nat → List Nat
  | 0 => []
  | k + 1 => let d := l.getD k zD; if wrB d then gthK fr pg l most k else gthK fr pg l most k ++ (rdO fr pg d.addr d.len).take (roomN most (gthK fr pg l most k).length)
theorem gthK_by {fr : List Frm} (hF : Frs fr) (pg : List Pl) (l : List Dsc) (most : Int) : ∀ k, By (gthK fr pg l most k)
  | 0 => fun b hb => by simp [gthK] at hb
  | k + 1 => by
    rw [gthK]; split
    · exact gthK_by hF pg l most k
    · exact (gthK_by hF pg l most k).append ((rdO_by hF _ _ _).take _)
theorem gthK_len (fr : List Frm) (pg : List Pl) (l : List Dsc) (most : Int) : ∀ k, (gthK fr pg l most k).length ≤ 512 * k ∧ ((gthK fr pg l most k).length = 0 ∨ ((gthK fr pg l most k).length : Int) ≤ most)
  | 0 => ⟨by simp [gthK], .inl rfl⟩
  | k + 1 => by
    obtain ⟨h1, h2⟩ := gthK_len fr pg l most k
    have h3 := rdO_len (fr := fr) (pg := pg) (pa := (l.getD k zD).addr) (n := (l.getD k zD).len)
    rw [gthK]; split
    · exact ⟨by omega, h2⟩
    · rw [List.length_append, List.length_take, roomN]; omega
theorem byV_take (l : List Nat) (k : Nat) : byV (l.take k) = (byV l).take k := by simp [byV, List.map_take]
theorem chGather_spec (W0 : World) (R : List HP) (pv ps pm d c : Nat) (a : Option Addr) (fr : List Frm) (pg : List Pl) (h : Pgs pg) (hF : Frs fr) (l : List Dsc) (hs : SlA (OwnP W0 R) a 4 dsV l) (hl : ∀ x ∈ l, x.ok) (hn : l.length ≤ 1000) (most : Int) (hm : -9223372036854775808 ≤ most ∧ most < 9223372036854775808) :
    Spec Try.prog W0 9 [.pointer (some ⟨pv, 0, none⟩), .slice a l.length c, .int .i64 most] (vw pv ps pm d fr pg R)
      (fun v B => ∃ a' c', v = .slice a' (gthK fr pg l most l.length).length c' ∧ B = osl 5 1 (.slice a' (gthK fr pg l most l.length).length c') (byV (gthK fr pg l most l.length)) :: vw pv ps pm d fr pg R) := by
  refine spec_body Try.func9 Try.ntmps9 rfl rfl ?_
  refine x_seq ?_
  refine x_region ?_
  refine s_val rfl (v_assign rfl) ?_
  refine x_nil ?_
  refine n_then ?_
  refine x_seq ?_
  refine x_region ?_
  refine s_val rfl (v_assign rfl) ?_
  refine x_nil ?_
  refine n_then ?_
  refine x_seq ?_
  refine x_seq ?_
  refine x_region ?_
  refine s_val rfl (v_move rfl) ?_
  refine s_val rfl (v_len_slice Try.underlying27 rfl) ?_
  refine s_val rfl (v_move rfl) ?_
  refine x_nil ?_
  refine n_then ?_
  refine x_block ?_
  refine x_loop (fun X : Nat × Option Addr × Nat => X.1 ≤ l.length) (fun X => [(0, .pointer (some ⟨pv, 0, none⟩)), (2, .int .i64 most), (7, .slice X.2.1 (gthK fr pg l most X.1).length X.2.2), (13, .slice a l.length c), (14, .int .i64 l.length), (15, .int .i64 X.1)]) (fun X => osl 5 1 (.slice X.2.1 (gthK fr pg l most X.1).length X.2.2) (byV (gthK fr pg l most X.1)) :: vw pv ps pm d fr pg R) (fun X => l.length - X.1) (0, none, 0) ?_ ?_ ?_ ?_
  · simp
  · repeat (first | exact sub_nil | refine sub_cons rfl ?_)
  · exact ent_osl_nil
  · intro ⟨i, a0, c0⟩ hi
    dsimp only at hi ⊢
    obtain ⟨hg1, hg2⟩ := gthK_len fr pg l most i
    refine x_seq ?_
    refine x_region ?_
    refine s_val rfl (v_lss rfl rfl) ?_
    refine x_nil ?_
    refine n_then ?_
    refine x_seq ?_
    refine x_if rfl ?_ ?_
    · intro c3
      refine x_skip ?_
      refine n_then ?_
      refine x_seq ?_
      refine x_block ?_
      refine x_seq ?_
      have hi1 : i < l.length := by omega
      obtain ⟨g, o, rfl, hc⟩ := hs.at_ hi1
      have hd := hl _ (List.getElem_mem hi1)
      have hgd : l.getD i zD = l[i] := by simp [List.getD, hi1]
      have ha := hd.addr
      have hle := hd.len
      refine x_region ?_
      refine s_val rfl (v_idx Try.underlying27 Try.sizeOf30 rfl rfl rfl hi1 (by first | exact Nat.zero_add _ | rfl)) ?_
      refine s_val rfl (v_loadAgg Try.isAgg30 Try.sizeOf30 rfl hc.weak rfl) ?_
      refine s_do rfl (d_allocA Try.zeroValue30) ?_
      rintro _ _ ⟨b1, rfl, rfl⟩
      refine s_do0 (d_storeAll Try.sizeOf30 rfl rfl rfl rfl rfl) ?_
      rintro _ _ rfl
      refine x_nil ?_
      refine n_then ?_
      refine x_seq ?_
      refine x_seq ?_
      refine x_region ?_
      refine s_val rfl (v_loadAll Try.isAgg30 Try.sizeOf30 rfl rfl) ?_
      refine s_do rfl (d_call Try.call31 rfl (chWrites_spec W0 _ l[i] hd)) ?_
      rintro _ B_ ⟨rfl, hB_⟩
      obtain rfl := hB_.symm
      refine x_nil ?_
      refine n_then ?_
      refine x_if rfl ?_ ?_
      · intro c5
        have hst : gthK fr pg l most (i + 1) = gthK fr pg l most i := by rw [gthK]; simp only [hgd]; rw [if_pos c5]
        obtain ⟨a1, rfl⟩ : ∃ x, x = a0 := ⟨a0, rfl⟩
        obtain ⟨c1, rfl⟩ : ∃ x, x = c0 := ⟨c0, rfl⟩
        refine x_exit ?_
        refine e_then ?_
        refine e_block ?_
        refine n_then ?_
        refine x_region ?_
        refine s_val rfl (v_add rfl rfl (by first | exact w64 (by omega) | rfl)) ?_
        refine s_val rfl (v_move rfl) ?_
        refine x_nil ?_
        refine n_then ?_
        refine inv_intro (i + 1, a1, c1) ?_ ?_ ?_ ?_
        · omega
        · omega
        · dsimp only
          rw [hst]
          try rw [List.length_append, List.length_take, Nat.min_comm]
          repeat (first | exact sub_nil | refine sub_cons rfl ?_)
        · dsimp only
          rw [hst]
          first
            | exact inferInstance
            | (rw [List.length_append, List.length_take, Nat.min_comm, byV_append]; exact inferInstance)
      · intro c5
        have hst : gthK fr pg l most (i + 1) = gthK fr pg l most i ++ (rdO fr pg l[i].addr l[i].len).take (roomN most (gthK fr pg l most i).length) := by rw [gthK]; simp only [hgd]; rw [if_neg c5]
        have hr5 := rdO_len (fr := fr) (pg := pg) (pa := l[i].addr) (n := l[i].len)
        have hrm : roomN most (gthK fr pg l most i).length = (most - ((gthK fr pg l most i).length : Int)).toNat := rfl
        refine x_skip ?_
        refine n_then ?_
        refine x_seq ?_
        refine x_region ?_
        refine s_val rfl (v_move rfl) ?_
        refine s_val rfl (v_fieldAddr rfl Try.underlying30 rfl Try.sizeOf28 rfl (by first | exact Nat.zero_add _ | rfl)) ?_
        refine s_val rfl (v_load Try.isAgg28 rfl (cell_own rfl)) ?_
        refine s_val rfl (v_fieldAddr rfl Try.underlying30 rfl Try.sizeOf28 rfl (by first | exact Nat.zero_add _ | rfl)) ?_
        refine s_val rfl (v_load Try.isAgg28 rfl (cell_own rfl)) ?_
        refine s_val rfl (v_conv Try.underlying28 Try.underlying3 rfl (w64 (by omega))) ?_
        refine s_do rfl (d_call3 Try.call33 rfl (viRead_spec W0 _ pv ps pm d fr pg h hF l[i].addr ha l[i].len)) ?_
        rintro _ B_ ⟨a2, c2, rfl, hB_⟩
        obtain rfl := hB_.symm
        generalize hX : rdO fr pg l[i].addr l[i].len = X at hst hr5
        generalize hG : gthK fr pg l most i = G at hst hg1 hg2 hrm
        refine run_form (E := 5) (sz := 1) (a := a2) (c := c2) (n := X.length) (fun hf2 => ?_)
        refine run_cap (E := 5) (sz := 1) (a := a2) (c := c2) (n := X.length) (fun hcap => ?_)
        refine s_val rfl (v_move rfl) ?_
        refine s_val rfl (v_extract rfl rfl) ?_
        refine s_val rfl (v_extract rfl rfl) ?_
        refine s_val rfl (v_assign rfl) ?_
        refine s_val rfl (v_assign rfl) ?_
        refine x_nil ?_
        refine n_then ?_
        refine x_seq ?_
        refine x_region ?_
        refine s_val rfl (v_move rfl) ?_
        refine s_val rfl (v_move rfl) ?_
        refine s_val rfl (v_len_slice Try.underlying22 rfl) ?_
        refine s_val rfl (v_sub rfl rfl (w64 (by omega))) ?_
        refine s_val rfl (v_max rfl rfl (by rw [hrm]; split <;> omega : (if most - (G.length : Int) > 0 then most - (G.length : Int) else 0) = ((roomN most G.length : Nat) : Int))) ?_
        refine s_val rfl (v_assign rfl) ?_
        refine x_nil ?_
        refine n_then ?_
        refine x_region ?_
        refine s_val rfl (v_move rfl) ?_
        refine s_val rfl (v_move rfl) ?_
        refine s_val rfl (v_move rfl) ?_
        refine s_val rfl (v_len_slice Try.underlying22 rfl) ?_
        refine s_val rfl (v_move rfl) ?_
        refine s_val rfl (v_min rfl rfl (by split <;> omega : (if ((roomN most G.length : Nat) : Int) < (X.length : Int) then ((roomN most G.length : Nat) : Int) else (X.length : Int)) = ((min X.length (roomN most G.length) : Nat) : Int))) ?_
        refine s_val rfl (v_sliceH Try.underlying22 Try.sizeOf5 rfl rfl rfl (by omega)) ?_
        refine s_do rfl (d_appendS (sz := 1) (by_ := 1) (info := Try.t5) Try.underlying22 (by kernel_rfl) rfl rfl rfl rfl (by decide) rfl rfl (news := byV (X.take (roomN most G.length))) (by
  rcases hf2 with ⟨q1, q2⟩ | ⟨g2, rfl⟩
  · left
    have : X = [] := by cases X with
      | nil => rfl
      | cons _ _ => simp [byV] at q2
    subst this; simp
  · right
    refine ⟨g2, 0, rfl, fun j u hj => ?_⟩
    rw [byV_take] at hj
    have hjk : j < roomN most G.length := by
      rcases Nat.lt_or_ge j (roomN most G.length) with q | q
      · exact q
      · rw [List.getElem?_eq_none (by rw [List.length_take]; omega)] at hj; cases hj
    rw [List.getElem?_take_of_lt hjk] at hj
    exact cells_osl (E := 5) (sz := 1) (a := some ⟨g2, 0, none⟩) (n := X.length) (c := c2) j u hj) (by rw [byV_len, List.length_take]; omega) (byV_one _) (by simp only [maxLen]; omega) (by omega)) ?_
        rintro _ _ ⟨a1, c1, rfl, rfl⟩
        refine s_val rfl (v_assign rfl) ?_
        refine x_nil ?_
        refine n_block ?_
        refine n_then ?_
        refine x_region ?_
        refine s_val rfl (v_add rfl rfl (by first | exact w64 (by omega) | rfl)) ?_
        refine s_val rfl (v_move rfl) ?_
        refine x_nil ?_
        refine n_then ?_
        refine inv_intro (i + 1, a1, c1) ?_ ?_ ?_ ?_
        · omega
        · omega
        · dsimp only
          rw [hst]
          try rw [List.length_append, List.length_take, Nat.min_comm]
          repeat (first | exact sub_nil | refine sub_cons rfl ?_)
        · dsimp only
          rw [hst]
          first
            | exact inferInstance
            | (rw [List.length_append, List.length_take, Nat.min_comm, byV_append]; exact inferInstance)
    · intro c3
      refine x_exit ?_
      refine e_then ?_
      refine e_then ?_
      refine e_block ?_
      refine n_then ?_
      refine x_seq ?_
      refine x_region ?_
      refine s_val rfl (v_move rfl) ?_
      refine s_val rfl (v_assign rfl) ?_
      refine x_nil ?_
      refine n_then ?_
      refine x_ret ?_
      refine x_done (.inl rfl) (.cons (r_tmp rfl) .nil) ?_
      have e1 : i = l.length := by omega
      subst e1
      exact ⟨_, ⟨a0, c0, rfl, rfl⟩, inferInstance⟩

abbrev ScS := Nat × Nat × List Frm × Nat
def scStep (pg : List Pl) (bs : List Nat) (x : Dsc) (s : ScS) : ScS :=
  if wrB x = true ∧ ownB s.2.2.1.length pg x.addr x.len = true then
    (s.1 - min s.1 x.len, s.2.1 + min (x.len - min s.1 x.len) (bs.length - s.2.1), wrF s.2.2.1 pg (x.addr + min s.1 x.len) ((bs.drop s.2.1).take (min (x.len - min s.1 x.len) (bs.length - s.2.1))), wrE s.2.2.1 pg (x.addr + min s.1 x.len) s.2.2.2 (min (x.len - min s.1 x.len) (bs.length - s.2.1)))
  else s
def scK (fr : List Frm) (pg : List Pl) (d : Nat) (l : List Dsc) (from_ : Int) (bs : List Nat) : Nat → ScS
  | 0 => (from_.toNat, 0, fr, d)
  | i + 1 => scStep pg bs (l.getD i zD) (scK fr pg d l from_ bs i)
structure ScOk (fr : List Frm) (from_ : Int) (bs : List Nat) (s : ScS) : Prop where
  frs : Frs s.2.2.1
  len : s.2.2.1.length = fr.length
  d : s.2.2.2 < 4096
  dn : s.2.1 ≤ bs.length
  sk : s.1 ≤ from_.toNat
theorem scK_ok {fr : List Frm} {pg : List Pl} {d : Nat} {l : List Dsc} {from_ : Int} {bs : List Nat} (hF : Frs fr) (hd : d < 4096) : ∀ i, ScOk fr from_ bs (scK fr pg d l from_ bs i)
  | 0 => ⟨hF, rfl, hd, Nat.zero_le _, Nat.le_refl _⟩
  | i + 1 => by
    have h := scK_ok (pg := pg) (l := l) (from_ := from_) (bs := bs) hF hd i
    rw [scK, scStep]; split
    · have h1 := h.dn
      have h2 := h.sk
      exact ⟨(wrF_ok h.frs).1, (wrF_ok h.frs).2.trans h.len, wrE_lt h.d, by simp only; omega, by simp only; omega⟩
    · exact h
theorem chScatter_spec (W0 : World) (R : List HP) (pv ps pm d c cb : Nat) (a ab : Option Addr) (fr : List Frm) (pg : List Pl) (h : Pgs pg) (hF : Frs fr) (hd : d < 4096) (l : List Dsc) (hs : SlA (OwnP W0 R) a 4 dsV l) (hl : ∀ x ∈ l, x.ok) (hn : l.length ≤ 1000) (from_ : Int) (hf : -9223372036854775808 ≤ from_ ∧ from_ < 9223372036854775808)
    (bs : List Nat) (hb : By bs) (hsb : SlA (OwnP W0 R) ab 1 (fun x => [bV x]) bs) (hbl : bs.length < 9223372036854775808) (hcb : bs.length ≤ cb) :
    Spec Try.prog W0 8 [.pointer (some ⟨pv, 0, none⟩), .slice a l.length c, .int .i64 from_, .slice ab bs.length cb] (vw pv ps pm d fr pg R)
      (fun v B => v = .int .i64 ((scK fr pg d l from_ bs l.length).2.1 : Nat) ∧ B = vw pv ps pm (scK fr pg d l from_ bs l.length).2.2.2 (scK fr pg d l from_ bs l.length).2.2.1 pg R) := by
  refine spec_body Try.func8 Try.ntmps8 rfl rfl ?_
  refine x_seq ?_
  refine x_region ?_
  refine s_val rfl (v_assign rfl) ?_
  refine x_nil ?_
  refine n_then ?_
  refine x_seq ?_
  refine x_region ?_
  refine s_val rfl (v_move rfl) ?_
  refine s_val rfl (v_max rfl rfl (by split <;> omega : (if from_ > 0 then from_ else 0) = ((from_.toNat : Nat) : Int))) ?_
  refine s_val rfl (v_assign rfl) ?_
  refine s_val rfl (v_assign rfl) ?_
  refine x_nil ?_
  refine n_then ?_
  refine x_seq ?_
  refine x_seq ?_
  refine x_region ?_
  refine s_val rfl (v_move rfl) ?_
  refine s_val rfl (v_len_slice Try.underlying27 rfl) ?_
  refine s_val rfl (v_move rfl) ?_
  refine x_nil ?_
  refine n_then ?_
  refine x_block ?_
  refine x_loop (fun i : Nat => i ≤ l.length) (fun i => [(0, .pointer (some ⟨pv, 0, none⟩)), (3, .slice ab bs.length cb), (9, .int .i64 ((scK fr pg d l from_ bs i).1 : Nat)), (10, .int .i64 ((scK fr pg d l from_ bs i).2.1 : Nat)), (18, .slice a l.length c), (19, .int .i64 l.length), (20, .int .i64 i)]) (fun i => vw pv ps pm (scK fr pg d l from_ bs i).2.2.2 (scK fr pg d l from_ bs i).2.2.1 pg R) (fun i => l.length - i) 0 ?_ ?_ ?_ ?_
  · exact Nat.zero_le _
  · repeat (first | exact sub_nil | refine sub_cons rfl ?_)
  · simp only [scK]; exact inferInstance
  · intro i hi
    have hok := scK_ok (pg := pg) (l := l) (from_ := from_) (bs := bs) hF hd i
    have hS : scK fr pg d l from_ bs (i + 1) = scStep pg bs (l.getD i zD) (scK fr pg d l from_ bs i) := rfl
    have hend : ∀ hle : i = l.length, scK fr pg d l from_ bs l.length = scK fr pg d l from_ bs i := fun q => by rw [q]
    generalize scK fr pg d l from_ bs i = s at hok hS hend ⊢
    obtain ⟨sk, dn, fi, di⟩ := s
    obtain ⟨hFi, hli, hdi, hdn, hsk⟩ := hok
    dsimp only at hFi hli hdi hdn hsk ⊢
    refine x_seq ?_
    refine x_region ?_
    refine s_val rfl (v_lss rfl rfl) ?_
    refine x_nil ?_
    refine n_then ?_
    refine x_seq ?_
    refine x_if rfl ?_ ?_
    · intro c3
      refine x_skip ?_
      refine n_then ?_
      refine x_seq ?_
      refine x_block ?_
      refine x_seq ?_
      have hi1 : i < l.length := by omega
      obtain ⟨g, o, rfl, hc⟩ := hs.at_ hi1
      have hx := hl _ (List.getElem_mem hi1)
      have hgd : l.getD i zD = l[i] := by simp [List.getD, hi1]
      rw [hgd] at hS
      generalize l[i] = x at hc hx hS
      have ha := hx.addr
      have hle := hx.len
      refine x_region ?_
      refine s_val rfl (v_idx Try.underlying27 Try.sizeOf30 rfl rfl rfl hi1 (by first | exact Nat.zero_add _ | rfl)) ?_
      refine s_val rfl (v_loadAgg Try.isAgg30 Try.sizeOf30 rfl hc.weak rfl) ?_
      refine s_do rfl (d_allocA Try.zeroValue30) ?_
      rintro _ _ ⟨b1, rfl, rfl⟩
      refine s_do0 (d_storeAll Try.sizeOf30 rfl rfl rfl rfl rfl) ?_
      rintro _ _ rfl
      refine x_nil ?_
      refine n_then ?_
      refine x_seq ?_
      refine x_seq ?_
      refine x_region ?_
      refine s_val rfl (v_loadAll Try.isAgg30 Try.sizeOf30 rfl rfl) ?_
      refine s_do rfl (d_call Try.call31 rfl (chWrites_spec W0 _ x hx)) ?_
      rintro _ B_ ⟨rfl, hB_⟩
      obtain rfl := hB_.symm
      refine s_val rfl (v_not rfl) ?_
      refine s_val rfl (v_move rfl) ?_
      refine s_or rfl rfl rfl ?_ ?_
      · intro g5_4
        have hst : scK fr pg d l from_ bs (i + 1) = (sk, dn, fi, di) := by rw [hS, scStep, if_neg (fun q => g5_4 q.1)]
        refine s_no rfl rfl rfl rfl ?_
        refine s_no rfl rfl rfl rfl ?_
        refine s_no rfl rfl rfl rfl ?_
        refine s_no rfl rfl rfl rfl ?_
        refine s_no rfl rfl rfl rfl ?_
        refine s_no rfl rfl rfl rfl ?_
        refine s_no rfl rfl rfl rfl ?_
        refine s_val rfl (v_pick_t rfl rfl) ?_
        refine x_nil ?_
        refine n_then ?_
        refine x_ift rfl ?_
        refine x_exit ?_
        refine e_then ?_
        refine e_block ?_
        refine n_then ?_
        refine x_region ?_
        refine s_val rfl (v_add rfl rfl (by first | exact w64 (by omega) | rfl)) ?_
        refine s_val rfl (v_move rfl) ?_
        refine x_nil ?_
        refine n_then ?_
        refine inv_intro (i + 1) ?_ ?_ ?_ ?_
        · omega
        · omega
        · rw [hst]; repeat (first | exact sub_nil | refine sub_cons rfl ?_)
        · rw [hst]; exact inferInstance
      · intro g5_4
        refine s_val rfl (v_move rfl) ?_
        refine s_yes rfl rfl ?_
        refine s_val rfl (v_fieldAddr rfl Try.underlying30 rfl Try.sizeOf28 rfl (by first | exact Nat.zero_add _ | rfl)) ?_
        refine s_yes rfl rfl ?_
        refine s_val rfl (v_load Try.isAgg28 rfl (cell_own rfl)) ?_
        refine s_yes rfl rfl ?_
        refine s_val rfl (v_fieldAddr rfl Try.underlying30 rfl Try.sizeOf28 rfl (by first | exact Nat.zero_add _ | rfl)) ?_
        refine s_yes rfl rfl ?_
        refine s_val rfl (v_load Try.isAgg28 rfl (cell_own rfl)) ?_
        refine s_yes rfl rfl ?_
        refine s_val rfl (v_conv Try.underlying28 Try.underlying3 rfl (w64 (by omega))) ?_
        refine s_yes rfl rfl ?_
        refine s_do rfl (d_call3 Try.call32 rfl (viOwn_spec W0 _ pv ps pm di fi pg h x.addr ha x.len)) ?_
        rintro _ B_ ⟨rfl, hB_⟩
        obtain rfl := hB_.symm
        refine s_yes rfl rfl ?_
        refine s_val rfl (v_not rfl) ?_
        refine s_val rfl (v_pick_f rfl rfl) ?_
        refine x_nil ?_
        refine n_then ?_
        refine x_if rfl ?_ ?_
        · intro c5
          have hst : scK fr pg d l from_ bs (i + 1) = (sk, dn, fi, di) := by rw [hS, scStep, if_neg (fun q => c5 q.2)]
          refine x_exit ?_
          refine e_then ?_
          refine e_block ?_
          refine n_then ?_
          refine x_region ?_
          refine s_val rfl (v_add rfl rfl (by first | exact w64 (by omega) | rfl)) ?_
          refine s_val rfl (v_move rfl) ?_
          refine x_nil ?_
          refine n_then ?_
          refine inv_intro (i + 1) ?_ ?_ ?_ ?_
          · omega
          · omega
          · rw [hst]; repeat (first | exact sub_nil | refine sub_cons rfl ?_)
          · rw [hst]; exact inferInstance
        · intro c5
          have hw : wrB x = true := by simpa using g5_4
          have ho : ownB fi.length pg x.addr x.len = true := by simpa using c5
          have hst : scK fr pg d l from_ bs (i + 1) = (sk - min sk x.len, dn + min (x.len - min sk x.len) (bs.length - dn), wrF fi pg (x.addr + min sk x.len) ((bs.drop dn).take (min (x.len - min sk x.len) (bs.length - dn))), wrE fi pg (x.addr + min sk x.len) di (min (x.len - min sk x.len) (bs.length - dn))) := by rw [hS, scStep, if_pos ⟨hw, ho⟩]
          have h512 := (ownB_nat.1 ho).1
          obtain ⟨ah, hah⟩ : ∃ y, min sk x.len = y := ⟨_, rfl⟩
          rw [hah] at hst
          obtain ⟨kk, hkk⟩ : ∃ y, min (x.len - ah) (bs.length - dn) = y := ⟨_, rfl⟩
          rw [hkk] at hst
          refine x_skip ?_
          refine n_then ?_
          refine x_seq ?_
          refine x_region ?_
          refine s_val rfl (v_fieldAddr rfl Try.underlying30 rfl Try.sizeOf28 rfl (by first | exact Nat.zero_add _ | rfl)) ?_
          refine s_val rfl (v_load Try.isAgg28 rfl (cell_own rfl)) ?_
          refine s_val rfl (v_conv Try.underlying28 Try.underlying3 rfl (w64 (by omega))) ?_
          refine s_val rfl (v_assign rfl) ?_
          refine x_nil ?_
          refine n_then ?_
          refine x_seq ?_
          refine x_region ?_
          refine s_val rfl (v_move rfl) ?_
          refine s_val rfl (v_move rfl) ?_
          refine s_val rfl (v_min rfl rfl (by split <;> omega : (if (x.len : Int) < (sk : Int) then (x.len : Int) else (sk : Int)) = ((ah : Nat) : Int))) ?_
          refine s_val rfl (v_assign rfl) ?_
          refine x_nil ?_
          refine n_then ?_
          refine x_seq ?_
          refine x_region ?_
          refine s_val rfl (v_move rfl) ?_
          refine s_val rfl (v_move rfl) ?_
          refine s_val rfl (v_sub rfl rfl (by rw [w64 (by omega)]; omega : IntKind.wrap .i64 ((sk : Int) - (ah : Int)) = ((sk - ah : Nat) : Int))) ?_
          refine s_val rfl (v_assign rfl) ?_
          refine x_nil ?_
          refine n_then ?_
          refine x_seq ?_
          refine x_region ?_
          refine s_val rfl (v_move rfl) ?_
          refine s_val rfl (v_move rfl) ?_
          refine s_val rfl (v_sub rfl rfl (by rw [w64 (by omega)]; omega : IntKind.wrap .i64 ((x.len : Int) - (ah : Int)) = ((x.len - ah : Nat) : Int))) ?_
          refine s_val rfl (v_move rfl) ?_
          refine s_val rfl (v_len_slice Try.underlying22 rfl) ?_
          refine s_val rfl (v_move rfl) ?_
          refine s_val rfl (v_sub rfl rfl (by rw [w64 (by omega)]; omega : IntKind.wrap .i64 ((bs.length : Int) - (dn : Int)) = ((bs.length - dn : Nat) : Int))) ?_
          refine s_val rfl (v_min rfl rfl (by split <;> omega : (if ((bs.length - dn : Nat) : Int) < ((x.len - ah : Nat) : Int) then ((bs.length - dn : Nat) : Int) else ((x.len - ah : Nat) : Int)) = ((kk : Nat) : Int))) ?_
          refine s_val rfl (v_assign rfl) ?_
          refine x_nil ?_
          refine n_then ?_
          refine x_seq ?_
          refine x_draw [(b1, 0, _)] 13 mixed rfl (sc_own sc_end) (fun hS => ?_)
          refine d_take 0 rfl rfl (by kernel_rfl) (by kernel_rfl) (by kernel_rfl) rfl hS (v_move rfl) ?_
          refine d_take 1 rfl rfl (by kernel_rfl) (by kernel_rfl) (by kernel_rfl) rfl hS (v_fieldAddr rfl Try.underlying30 rfl Try.sizeOf28 rfl (by first | exact Nat.zero_add _ | rfl)) ?_
          refine d_take 2 rfl rfl (by kernel_rfl) (by kernel_rfl) (by kernel_rfl) rfl hS (v_load Try.isAgg28 rfl (cell_sc0 (k := 0) rfl rfl)) ?_
          refine d_take 3 rfl rfl (by kernel_rfl) (by kernel_rfl) (by kernel_rfl) rfl hS (v_move rfl) ?_
          refine d_take 4 rfl rfl (by kernel_rfl) (by kernel_rfl) (by kernel_rfl) rfl hS (v_conv Try.underlying3 Try.underlying28 rfl (w32u (by omega))) ?_
          refine d_take 5 rfl rfl (by kernel_rfl) (by kernel_rfl) (by kernel_rfl) rfl hS (v_add rfl rfl (by rw [w32u (by omega)]; omega : IntKind.wrap .u32 ((x.addr : Int) + (ah : Int)) = ((x.addr + ah : Nat) : Int))) ?_
          refine d_take 6 rfl rfl (by kernel_rfl) (by kernel_rfl) (by kernel_rfl) rfl hS (v_move rfl) ?_
          refine d_take 7 rfl rfl (by kernel_rfl) (by kernel_rfl) (by kernel_rfl) rfl hS (v_move rfl) ?_
          refine d_take 8 rfl rfl (by kernel_rfl) (by kernel_rfl) (by kernel_rfl) rfl hS (v_move rfl) ?_
          refine d_take 9 rfl rfl (by kernel_rfl) (by kernel_rfl) (by kernel_rfl) rfl hS (v_move rfl) ?_
          refine d_take 10 rfl rfl (by kernel_rfl) (by kernel_rfl) (by kernel_rfl) rfl hS (v_add rfl rfl (by rw [w64 (by omega)]; omega : IntKind.wrap .i64 ((dn : Int) + (kk : Int)) = ((dn + kk : Nat) : Int))) ?_
          refine d_take 11 rfl rfl (by kernel_rfl) (by kernel_rfl) (by kernel_rfl) rfl hS (v_sliceLHg Try.underlying22 Try.sizeOf5 rfl rfl rfl rfl rfl (by omega) (by omega)) ?_
          refine d_one 12 (by kernel_rfl) rfl rfl (d_call3 Try.call29 rfl (viWriteN_spec W0 _ pv ps pm di _ (dn + kk - dn) _ fi pg h hFi hdi (x.addr + ah) (by omega) ((bs.drop dn).take kk) (by rw [List.length_take, List.length_drop]; omega) ((hb.drop _).take _) (SlA.sub hsb.weak (by omega) hcb) (by omega))) rfl ?_; clear hS
          rintro _ B_ ⟨rfl, hB_⟩
          obtain rfl := hB_.symm
          rw [show dn + kk - dn = kk by omega]
          refine ⟨(sc_own sc_end), fun hS => ?_⟩
          refine d_done (by kernel_rfl) ?_; clear hS
          refine n_then ?_
          refine x_region ?_
          refine s_val rfl (v_move rfl) ?_
          refine s_val rfl (v_move rfl) ?_
          refine s_val rfl (v_add rfl rfl (by rw [w64 (by omega)]; omega : IntKind.wrap .i64 ((dn : Int) + (kk : Int)) = ((dn + kk : Nat) : Int))) ?_
          refine s_val rfl (v_assign rfl) ?_
          refine x_nil ?_
          refine n_block ?_
          refine n_then ?_
          refine x_region ?_
          refine s_val rfl (v_add rfl rfl (by first | exact w64 (by omega) | rfl)) ?_
          refine s_val rfl (v_move rfl) ?_
          refine x_nil ?_
          refine n_then ?_
          refine inv_intro (i + 1) ?_ ?_ ?_ ?_
          · omega
          · omega
          · rw [hst]; repeat (first | exact sub_nil | refine sub_cons rfl ?_)
          · rw [hst]; exact inferInstance
    · intro c3
      refine x_exit ?_
      refine e_then ?_
      refine e_then ?_
      refine e_block ?_
      refine n_then ?_
      refine x_seq ?_
      refine x_region ?_
      refine s_val rfl (v_move rfl) ?_
      refine s_val rfl (v_assign rfl) ?_
      refine x_nil ?_
      refine n_then ?_
      refine x_ret ?_
      refine x_done (.inl rfl) (.cons (r_tmp rfl) .nil) ?_
      have e1 := hend (by omega)
      rw [e1]
      exact ⟨_, ⟨rfl, rfl⟩, inferInstance⟩
theorem rcGather_spec (W0 : World) (R : List HP) (qv qs qm d c : Nat) (a : Option Addr) (fr : List Frm) (pg : List Pl) (h : Pgs pg) (hF : Frs fr) (l : List Dsc) (hs : SlA (OwnP W0 R) a 4 dsV l) (hl : ∀ x ∈ l, x.ok) (hn : l.length ≤ 1000) (most : Int) (hm : -9223372036854775808 ≤ most ∧ most < 9223372036854775808) :
    Spec Try.prog W0 18 [.pointer (some ⟨qv, 0, none⟩), .slice a l.length c, .int .i64 most] (pt qv (rvO qs qm d) :: rstoH qs fr :: pt qm (rgO pg) :: R)
      (fun v B => ∃ a' c', v = .slice a' (gthK fr pg l most l.length).length c' ∧ B = osl 5 1 (.slice a' (gthK fr pg l most l.length).length c') (byV (gthK fr pg l most l.length)) :: pt qv (rvO qs qm d) :: rstoH qs fr :: pt qm (rgO pg) :: R) := by
  refine spec_body Try.func18 Try.ntmps18 rfl rfl ?_
  refine x_seq ?_
  refine x_region ?_
  refine s_val rfl (v_assign rfl) ?_
  refine x_nil ?_
  refine n_then ?_
  refine x_seq ?_
  refine x_region ?_
  refine s_val rfl (v_assign rfl) ?_
  refine x_nil ?_
  refine n_then ?_
  refine x_seq ?_
  refine x_seq ?_
  refine x_region ?_
  refine s_val rfl (v_assign rfl) ?_
  refine x_nil ?_
  refine n_then ?_
  refine x_block ?_
  refine x_loop (fun X : Nat × Option Addr × Nat => X.1 ≤ l.length) (fun X => [(0, .pointer (some ⟨qv, 0, none⟩)), (1, .slice a l.length c), (2, .int .i64 most), (7, .slice X.2.1 (gthK fr pg l most X.1).length X.2.2), (8, .int .i64 X.1)]) (fun X => osl 5 1 (.slice X.2.1 (gthK fr pg l most X.1).length X.2.2) (byV (gthK fr pg l most X.1)) :: pt qv (rvO qs qm d) :: rstoH qs fr :: pt qm (rgO pg) :: R) (fun X => l.length - X.1) (0, none, 0) ?_ ?_ ?_ ?_
  · simp
  · repeat (first | exact sub_nil | refine sub_cons rfl ?_)
  · exact ent_osl_nil
  · intro ⟨i, a0, c0⟩ hi
    dsimp only at hi ⊢
    obtain ⟨hg1, hg2⟩ := gthK_len fr pg l most i
    refine x_seq ?_
    refine x_seq ?_
    refine x_region ?_
    refine s_val rfl (v_move rfl) ?_
    refine s_val rfl (v_move rfl) ?_
    refine s_val rfl (v_len_slice Try.underlying27 rfl) ?_
    refine s_val rfl (v_lss rfl rfl) ?_
    refine x_nil ?_
    refine n_then ?_
    refine x_if rfl ?_ ?_
    · intro c3
      refine x_skip ?_
      refine n_then ?_
      refine x_seq ?_
      refine x_block ?_
      refine x_seq ?_
      refine x_seq ?_
      have hi1 : i < l.length := by omega
      obtain ⟨g, o, rfl, hc⟩ := hs.at_ hi1
      have hd := hl _ (List.getElem_mem hi1)
      have hgd : l.getD i zD = l[i] := by simp [List.getD, hi1]
      have ha := hd.addr
      have hle := hd.len
      refine x_region ?_
      refine s_val rfl (v_move rfl) ?_
      refine s_val rfl (v_move rfl) ?_
      refine s_val rfl (v_idx Try.underlying27 Try.sizeOf30 rfl rfl rfl hi1 (by first | exact Nat.zero_add _ | rfl)) ?_
      refine s_val rfl (v_loadAgg Try.isAgg30 Try.sizeOf30 rfl hc.weak rfl) ?_
      refine s_do rfl (d_call Try.call54 rfl (rcWrites_spec W0 _ l[i] hd)) ?_
      rintro _ B_ ⟨rfl, hB_⟩
      obtain rfl := hB_.symm
      refine x_nil ?_
      refine n_then ?_
      refine x_if rfl ?_ ?_
      · intro c5
        have hst : gthK fr pg l most (i + 1) = gthK fr pg l most i := by rw [gthK]; simp only [hgd]; rw [if_pos c5]
        obtain ⟨a1, rfl⟩ : ∃ x, x = a0 := ⟨a0, rfl⟩
        obtain ⟨c1, rfl⟩ : ∃ x, x = c0 := ⟨c0, rfl⟩
        refine x_exit ?_
        refine e_then ?_
        refine e_block ?_
        refine n_then ?_
        skip
        refine x_region ?_
        refine s_val rfl (v_move rfl) ?_
        refine s_val rfl (v_add rfl rfl (by first | exact w64 (by omega) | rfl)) ?_
        refine s_val rfl (v_assign rfl) ?_
        refine x_nil ?_
        refine n_then ?_
        refine inv_intro (i + 1, a1, c1) ?_ ?_ ?_ ?_
        · omega
        · omega
        · dsimp only
          rw [hst]
          first
            | (repeat (first | exact sub_nil | refine sub_cons rfl ?_)
               done)
            | (have e3 : X.take (roomN most G.length) = X.take k := by
                 rcases Nat.lt_or_ge k X.length with q | q
                 · congr 1; omega
                 · rw [List.take_of_length_le (by omega), List.take_of_length_le q]
               rw [e3, List.length_append, List.length_take, Nat.min_eq_left hk1]
               repeat (first | exact sub_nil | refine sub_cons rfl ?_))
        · dsimp only
          rw [hst]
          first
            | exact inferInstance
            | (have e3 : X.take (roomN most G.length) = X.take k := by
                 rcases Nat.lt_or_ge k X.length with q | q
                 · congr 1; omega
                 · rw [List.take_of_length_le (by omega), List.take_of_length_le q]
               rw [e3, List.length_append, List.length_take, Nat.min_eq_left hk1]
               exact inferInstance)
      · intro c5
        have hst : gthK fr pg l most (i + 1) = gthK fr pg l most i ++ (rdO fr pg l[i].addr l[i].len).take (roomN most (gthK fr pg l most i).length) := by rw [gthK]; simp only [hgd]; rw [if_neg c5]
        have hr5 := rdO_len (fr := fr) (pg := pg) (pa := l[i].addr) (n := l[i].len)
        have hrm : roomN most (gthK fr pg l most i).length = (most - ((gthK fr pg l most i).length : Int)).toNat := rfl
        refine x_skip ?_
        refine n_then ?_
        refine x_seq ?_
        refine x_draw [(g, o + i * 4, dsV l[i])] 18 mixed rfl (sc_cons hc.weak sc_end) (fun hS => ?_)
        refine d_take 0 rfl rfl (by kernel_rfl) (by kernel_rfl) (by kernel_rfl) rfl hS (v_move rfl) ?_
        refine d_take 1 rfl rfl (by kernel_rfl) (by kernel_rfl) (by kernel_rfl) rfl hS (v_move rfl) ?_
        refine d_take 2 rfl rfl (by kernel_rfl) (by kernel_rfl) (by kernel_rfl) rfl hS (v_move rfl) ?_
        refine d_take 3 rfl rfl (by kernel_rfl) (by kernel_rfl) (by kernel_rfl) rfl hS (v_idx Try.underlying27 Try.sizeOf30 rfl rfl rfl hi1 (by first | exact Nat.zero_add _ | rfl)) ?_
        refine d_take 4 rfl rfl (by kernel_rfl) (by kernel_rfl) (by kernel_rfl) rfl hS (v_fieldAddr rfl Try.underlying30 rfl Try.sizeOf28 rfl (by first | exact Nat.zero_add _ | rfl)) ?_
        refine d_take 5 rfl rfl (by kernel_rfl) (by kernel_rfl) (by kernel_rfl) rfl hS (v_load Try.isAgg28 rfl (cell_sc (k := 0) (j := 0) rfl rfl)) ?_
        refine d_take 6 rfl rfl (by kernel_rfl) (by kernel_rfl) (by kernel_rfl) rfl hS (v_move rfl) ?_
        refine d_take 7 rfl rfl (by kernel_rfl) (by kernel_rfl) (by kernel_rfl) rfl hS (v_move rfl) ?_
        refine d_take 8 rfl rfl (by kernel_rfl) (by kernel_rfl) (by kernel_rfl) rfl hS (v_idx Try.underlying27 Try.sizeOf30 rfl rfl rfl hi1 (by first | exact Nat.zero_add _ | rfl)) ?_
        refine d_take 9 rfl rfl (by kernel_rfl) (by kernel_rfl) (by kernel_rfl) rfl hS (v_fieldAddr rfl Try.underlying30 rfl Try.sizeOf28 rfl (by first | exact Nat.zero_add _ | rfl)) ?_
        refine d_take 10 rfl rfl (by kernel_rfl) (by kernel_rfl) (by kernel_rfl) rfl hS (v_load Try.isAgg28 rfl (cell_sc (k := 0) (j := 1) rfl rfl)) ?_
        refine d_take 11 rfl rfl (by kernel_rfl) (by kernel_rfl) (by kernel_rfl) rfl hS (v_conv Try.underlying28 Try.underlying3 rfl (w64 (by omega))) ?_
        refine d_one 12 (by kernel_rfl) rfl rfl (d_call3 Try.call55 rfl (rvRead_spec W0 _ qv qs qm d fr pg h hF l[i].addr ha l[i].len)) rfl ?_; clear hS
        rintro _ B_ ⟨a2, c2, rfl, hB_⟩
        obtain rfl := hB_.symm
        generalize hX : rdO fr pg l[i].addr l[i].len = X at hst hr5
        generalize hG : gthK fr pg l most i = G at hst hg1 hg2 hrm
        refine ⟨(sc_cons hc.weak sc_end), fun hS => ?_⟩
        refine d_take 13 rfl rfl (by kernel_rfl) (by kernel_rfl) (by kernel_rfl) rfl hS (v_move rfl) ?_
        refine d_take 14 rfl rfl (by kernel_rfl) (by kernel_rfl) (by kernel_rfl) rfl hS (v_extract rfl rfl) ?_
        refine d_take 15 rfl rfl (by kernel_rfl) (by kernel_rfl) (by kernel_rfl) rfl hS (v_extract rfl rfl) ?_
        refine d_take 16 rfl rfl (by kernel_rfl) (by kernel_rfl) (by kernel_rfl) rfl hS (v_assign rfl) ?_
        refine d_take 17 rfl rfl (by kernel_rfl) (by kernel_rfl) (by kernel_rfl) rfl hS (v_assign rfl) ?_
        refine d_done (by kernel_rfl) ?_; clear hS
        refine n_then ?_
        refine x_seq ?_
        refine run_form (E := 5) (sz := 1) (a := a2) (c := c2) (n := X.length) (fun hf2 => ?_)
        refine x_region ?_
        refine s_val rfl (v_assign rfl) ?_
        refine x_nil ?_
        refine n_then ?_
        refine x_block ?_
        refine x_loop (fun Y : Nat × Option Addr × Nat => Y.1 ≤ X.length ∧ Y.1 ≤ roomN most G.length) (fun Y => [(0, .pointer (some ⟨qv, 0, none⟩)), (1, .slice (some ⟨g, o, none⟩) l.length c), (2, .int .i64 most), (7, .slice Y.2.1 (G.length + Y.1) Y.2.2), (8, .int .i64 i), (9, .slice a2 X.length c2), (11, .int .i64 Y.1)]) (fun Y => osl 5 1 (.slice Y.2.1 (G.length + Y.1) Y.2.2) (byV (G ++ X.take Y.1)) :: osl 5 1 (.slice a2 X.length c2) (byV X) :: pt qv (rvO qs qm d) :: rstoH qs fr :: pt qm (rgO pg) :: R) (fun Y => X.length - Y.1) (0, a0, c0) ?_ ?_ ?_ ?_
        · exact ⟨Nat.zero_le _, Nat.zero_le _⟩
        · repeat (first | exact sub_nil | refine sub_cons rfl ?_)
        · simp only [List.take_zero, List.append_nil, Nat.add_zero]; exact inferInstance
        · intro ⟨k, a1, c1⟩ ⟨hk1, hk2⟩
          dsimp only at hk1 hk2 ⊢
          refine x_seq ?_
          refine x_seq ?_
          refine x_region ?_
          refine s_val rfl (v_move rfl) ?_
          refine s_val rfl (v_move rfl) ?_
          refine s_val rfl (v_len_slice Try.underlying22 rfl) ?_
          refine s_val rfl (v_lss rfl rfl) ?_
          refine s_val rfl (v_move rfl) ?_
          refine s_and rfl rfl rfl ?_ ?_
          · intro g8_5
            refine s_val rfl (v_move rfl) ?_
            refine s_yes rfl rfl ?_
            refine s_val rfl (v_len_slice Try.underlying22 rfl) ?_
            refine s_yes rfl rfl ?_
            refine s_val rfl (v_move rfl) ?_
            refine s_yes rfl rfl ?_
            refine s_val rfl (v_lss rfl rfl) ?_
            refine s_val rfl (v_pick_t rfl rfl) ?_
            refine x_nil ?_
            refine n_then ?_
            refine x_if rfl ?_ ?_
            · intro c8
              refine x_skip ?_
              refine n_then ?_
              refine x_seq ?_
              refine x_block ?_
              have hkX : k < X.length := by omega
              obtain ⟨g2, rfl⟩ := form_some hf2 (byV_ne (by omega))
              refine x_region ?_
              refine s_val rfl (v_move rfl) ?_
              refine s_val rfl (v_move rfl) ?_
              refine s_val rfl (v_move rfl) ?_
              refine s_val rfl (v_idx Try.underlying22 Try.sizeOf5 rfl rfl rfl hkX (by first | exact Nat.zero_add _ | rfl)) ?_
              refine s_val rfl (v_load Try.isAgg5 rfl (by rw [Nat.mul_one]; exact cell_osl (E := 5) (sz := 1) (n := X.length) (c := c2) (byV_get X k hkX))) ?_
              refine s_do rfl (d_sliceLit Try.underlying22 Try.sizeOf5 Try.zeroValue5 rfl rfl rfl rfl rfl (by decide) (by decide)) ?_
              rintro _ _ ⟨b1, rfl, rfl⟩
              refine s_do rfl (d_append (sz := 1) (by_ := 1) (info := Try.t5) Try.underlying22 (by kernel_rfl) rfl rfl rfl rfl (by decide) rfl rfl cells_all rfl rfl (by simp only [maxLen]; omega) (by omega)) ?_
              rintro _ _ ⟨a3, c3, rfl, rfl⟩
              refine s_val rfl (v_assign rfl) ?_
              refine x_nil ?_
              refine n_block ?_
              refine n_then ?_
              refine x_region ?_
              refine s_val rfl (v_move rfl) ?_
              refine s_val rfl (v_add rfl rfl (by first | exact w64 (by omega) | rfl)) ?_
              refine s_val rfl (v_assign rfl) ?_
              refine x_nil ?_
              refine n_then ?_
              refine inv_intro (k + 1, a3, c3) ?_ ?_ ?_ ?_
              · exact ⟨by omega, by omega⟩
              · omega
              · repeat (first | exact sub_nil | refine sub_cons rfl ?_)
              · dsimp only
                rw [List.take_succ_eq_append_getElem hkX, ← List.append_assoc, byV_append (G ++ X.take k), ← Nat.add_assoc, show byV [X[k]] = [bV X[k]] from rfl]
                exact inferInstance
            · intro c8
              refine x_exit ?_
              refine e_then ?_
              refine e_then ?_
              refine e_block ?_
              refine n_block ?_
              refine n_then ?_
              skip
              refine x_region ?_
              refine s_val rfl (v_move rfl) ?_
              refine s_val rfl (v_add rfl rfl (by first | exact w64 (by omega) | rfl)) ?_
              refine s_val rfl (v_assign rfl) ?_
              refine x_nil ?_
              refine n_then ?_
              refine inv_intro (i + 1, a1, c1) ?_ ?_ ?_ ?_
              · omega
              · omega
              · dsimp only
                rw [hst]
                first
                  | (repeat (first | exact sub_nil | refine sub_cons rfl ?_)
                     done)
                  | (have e3 : X.take (roomN most G.length) = X.take k := by
                       rcases Nat.lt_or_ge k X.length with q | q
                       · congr 1; omega
                       · rw [List.take_of_length_le (by omega), List.take_of_length_le q]
                     rw [e3, List.length_append, List.length_take, Nat.min_eq_left hk1]
                     repeat (first | exact sub_nil | refine sub_cons rfl ?_))
              · dsimp only
                rw [hst]
                first
                  | exact inferInstance
                  | (have e3 : X.take (roomN most G.length) = X.take k := by
                       rcases Nat.lt_or_ge k X.length with q | q
                       · congr 1; omega
                       · rw [List.take_of_length_le (by omega), List.take_of_length_le q]
                     rw [e3, List.length_append, List.length_take, Nat.min_eq_left hk1]
                     exact inferInstance)
          · intro g8_5
            refine s_no rfl rfl rfl rfl ?_
            refine s_no rfl rfl rfl rfl ?_
            refine s_no rfl rfl rfl rfl ?_
            refine s_val rfl (v_pick_f rfl rfl) ?_
            refine x_nil ?_
            refine n_then ?_
            refine x_iff rfl ?_
            refine x_exit ?_
            refine e_then ?_
            refine e_then ?_
            refine e_block ?_
            refine n_block ?_
            refine n_then ?_
            skip
            refine x_region ?_
            refine s_val rfl (v_move rfl) ?_
            refine s_val rfl (v_add rfl rfl (by first | exact w64 (by omega) | rfl)) ?_
            refine s_val rfl (v_assign rfl) ?_
            refine x_nil ?_
            refine n_then ?_
            refine inv_intro (i + 1, a1, c1) ?_ ?_ ?_ ?_
            · omega
            · omega
            · dsimp only
              rw [hst]
              first
                | (repeat (first | exact sub_nil | refine sub_cons rfl ?_)
                   done)
                | (have e3 : X.take (roomN most G.length) = X.take k := by
                     rcases Nat.lt_or_ge k X.length with q | q
                     · congr 1; omega
                     · rw [List.take_of_length_le (by omega), List.take_of_length_le q]
                   rw [e3, List.length_append, List.length_take, Nat.min_eq_left hk1]
                   repeat (first | exact sub_nil | refine sub_cons rfl ?_))
            · dsimp only
              rw [hst]
              first
                | exact inferInstance
                | (have e3 : X.take (roomN most G.length) = X.take k := by
                     rcases Nat.lt_or_ge k X.length with q | q
                     · congr 1; omega
                     · rw [List.take_of_length_le (by omega), List.take_of_length_le q]
                   rw [e3, List.length_append, List.length_take, Nat.min_eq_left hk1]
                   exact inferInstance)
    · intro c3
      refine x_exit ?_
      refine e_then ?_
      refine e_then ?_
      refine e_block ?_
      refine n_then ?_
      refine x_seq ?_
      refine x_region ?_
      refine s_val rfl (v_move rfl) ?_
      refine s_val rfl (v_assign rfl) ?_
      refine x_nil ?_
      refine n_then ?_
      refine x_ret ?_
      refine x_done (.inl rfl) (.cons (r_tmp rfl) .nil) ?_
      have e1 : i = l.length := by omega
      subst e1
      exact ⟨_, ⟨a0, c0, rfl, rfl⟩, inferInstance⟩
end Go.Proofs.Ytpmacnfjafpdcab
