/-
  Layer 22 (chain): what was scattered is gathered. Plain.
-/
import Derived.Test.YtpmacnfjafpdcabChainMv
namespace Go.Proofs.Ytpmacnfjafpdcab
open Go.RowKit
set_option linter.unusedSimpArgs false
set_option linter.unusedVariables false
set_option maxRecDepth 20000

theorem own_subP {len : Nat} {pg : List Pl} {pa n i k : Nat} (ho : ownB len pg pa n = true) (hk : i + k ≤ n) : ownB len pg (pa + i) k = true := by
  obtain ⟨h1, h2⟩ := ownB_nat.1 ho
  rw [ownB_nat]
  exact ⟨by omega, fun j hj => by rw [show pa + i + j = pa + (i + j) by omega]; exact h2 (i + j) (by omega)⟩
theorem ld_sv_nf {fr : List Frm} {i i' o x : Nat} {o' : Int} (hF : Frs fr) (hne : i ≠ i') : ldN (svF fr i o 1 x) i' o' 1 = ldN fr i' o' 1 := by
  unfold svF; split
  · by_cases h' : i' < fr.length
    · have h1 : isF fr.length (i' : Int) = true := isF_iff.2 (by omega)
      have h2 : isF (fr.set (i : Int).toNat (putB (fr.getD (i : Int).toNat []) (o : Int).toNat (1 : Int).toNat x)).length (i' : Int) = true := by rw [List.length_set]; exact h1
      rw [ldN, ldN, if_pos h1, if_pos h2]
      congr 1
      simp only [Int.toNat_natCast]
      rw [List.getD_eq_getElem?_getD, List.getElem?_set_ne hne, ← List.getD_eq_getElem?_getD]
    · have h1 : isF fr.length (i' : Int) = false := by rw [← Bool.not_eq_true, isF_iff]; omega
      have h2 : isF (fr.set (i : Int).toNat (putB (fr.getD (i : Int).toNat []) (o : Int).toNat (1 : Int).toNat x)).length (i' : Int) = false := by rw [List.length_set]; exact h1
      rw [ldN, ldN, h1, h2]; rfl
  · rfl
/-- Bytes in another frame stay. -/
theorem wr_nf {fr : List Frm} {pg : List Pl} {pa a' : Nat} {bs : List Nat} (hF : Frs fr) (hP : Pgs pg) (h' : frmB fr.length pg (pgI a') = true) : ∀ k, (∀ i, i < k → frmB fr.length pg (pgI (pa + i)) = true ∧ whr pg (pa + i) ≠ whr pg a') → rdv (wrK fr pg pa bs k) pg a' = rdv fr pg a'
  | 0, _ => rfl
  | k + 1, h => by
    have ih := wr_nf (bs := bs) hF hP h' k (fun i hi => h i (by omega))
    obtain ⟨h1, h2⟩ := h k (by omega)
    obtain ⟨f, hf, hfl⟩ := frm_nat hP h1
    obtain ⟨f', hf', hfl'⟩ := frm_nat hP h'
    rw [← ih, wrK, rdv, rdv, hf, hf']
    refine ld_sv_nf (wrK_ok hF k).1 ?_
    intro e; subst e; exact h2 (by rw [hf, hf'])
theorem bk_pages : ∀ p : Nat, p < 8 → frmB 9 (pg22 0 8) (p : Int) = true ∧ (gGot (pg22 0 8) (p : Int)).1 = ((8 - p : Nat) : Int) := by decide +kernel
def bkA (ats : List Nat) (i : Nat) : Nat := 64 * (i + 1) + (if i < ats.length then ats.getD i 0 % 32 else 0)
def bkN (lens : List Nat) (i : Nat) : Nat := lens.getD i 0 % 33
def bkO (ats lens : List Nat) (w m : Nat) : List Dsc := (List.range m).map fun i => ⟨bkA ats i, bkN lens i, w, 0⟩
theorem bkO_len (ats lens : List Nat) (w m : Nat) : (bkO ats lens w m).length = m := by simp [bkO]
theorem bkO_succ (ats lens : List Nat) (w m : Nat) : bkO ats lens w (m + 1) = bkO ats lens w m ++ [⟨bkA ats m, bkN lens m, w, 0⟩] := by simp [bkO, List.range_succ]
theorem bkO_get {ats lens : List Nat} {w m i : Nat} (h : i < m) : (bkO ats lens w m).getD i zD = ⟨bkA ats i, bkN lens i, w, 0⟩ := by simp [bkO, List.getD, h]
theorem bkA_lt (ats : List Nat) (i : Nat) : 64 * (i + 1) ≤ bkA ats i ∧ bkA ats i ≤ 64 * (i + 1) + 31 := by unfold bkA; split <;> omega
theorem bkN_lt (lens : List Nat) (i : Nat) : bkN lens i ≤ 32 := by unfold bkN; omega
theorem bkO_ok (ats lens : List Nat) (w m : Nat) (hw : w < 4) (hm : m ≤ 7) : ∀ d ∈ bkO ats lens w m, d.ok := fun d hd => by
  obtain ⟨i, hi, rfl⟩ := List.mem_map.1 hd
  have h1 := bkA_lt ats i
  have h2 := bkN_lt lens i
  have h3 := List.mem_range.1 hi
  exact ⟨by simp only; omega, by simp only; omega, by simp only; omega, by simp⟩
def bkP (lens : List Nat) : Nat → Nat
  | 0 => 0
  | i + 1 => bkP lens i + bkN lens i
theorem bkP_le (lens : List Nat) : ∀ i, bkP lens i ≤ 32 * i
  | 0 => by simp [bkP]
  | i + 1 => by have := bkP_le lens i; have := bkN_lt lens i; rw [bkP]; omega
theorem bkP_mono (lens : List Nat) {i j : Nat} (h : i ≤ j) : bkP lens i ≤ bkP lens j := by
  induction j with
  | zero => rw [show i = 0 by omega]; exact Nat.le_refl _
  | succ j ih =>
    rcases Nat.lt_or_ge j i with q | q
    · rw [show i = j + 1 by omega]; exact Nat.le_refl _
    · have := ih q; rw [bkP]; omega
theorem bk_own {len : Nat} (hlen : len = 9) (ats lens : List Nat) {i : Nat} (hi : i < 7) : ownB len (pg22 0 8) (bkA ats i) (bkN lens i) = true := by
  subst hlen
  have h1 := bkA_lt ats i
  have h2 := bkN_lt lens i
  rw [ownB_nat]
  exact ⟨by omega, fun q hq => (bk_pages ((bkA ats i + q) / 64) (by omega)).1⟩
theorem bk_whr (ats lens : List Nat) {i q : Nat} (hi : i < 7) (hq : q < bkN lens i) : whr (pg22 0 8) (bkA ats i + q) = ((8 - (i + 1) : Nat) : Int) := by
  have h1 := bkA_lt ats i
  have h2 := bkN_lt lens i
  have := (bk_pages ((bkA ats i + q) / 64) (by omega)).2
  rw [whr, pgI, this, show (bkA ats i + q) / 64 = i + 1 by omega]
theorem bk_frm {len : Nat} (hlen : len = 9) (ats lens : List Nat) {i q : Nat} (hi : i < 7) (hq : q < bkN lens i) : frmB len (pg22 0 8) (pgI (bkA ats i + q)) = true := (ownB_nat.1 (bk_own hlen ats lens hi)).2 q hq
/-- How far Scatter is, and what stands there. -/
structure BkOk (ats lens bs : List Nat) (f i : Nat) (s : ScS) : Prop where
  sk : s.1 = f - bkP lens i
  dn : s.2.1 = min bs.length (bkP lens i - f)
  len : s.2.2.1.length = 9
  frs : Frs s.2.2.1
  there : ∀ j q, j < i → q < bkN lens j → f ≤ bkP lens j + q → bkP lens j + q - f < s.2.1 → rdv s.2.2.1 (pg22 0 8) (bkA ats j + q) = bs.getD (bkP lens j + q - f) 0
theorem bk_step {ats lens bs : List Nat} {f i : Nat} {s : ScS} (hb : By bs) (hi : i < 7) (h : BkOk ats lens bs f i s) : BkOk ats lens bs f (i + 1) (scStep (pg22 0 8) bs ⟨bkA ats i, bkN lens i, 2, 0⟩ s) := by
  obtain ⟨sk, dn, fr, d⟩ := s
  obtain ⟨h1, h2, h3, h4, h5⟩ := h
  dsimp only at h1 h2 h3 h4 h5
  have hP := pg22_ok 0 8
  have hown := bk_own h3 ats lens hi
  have hpi : bkP lens (i + 1) = bkP lens i + bkN lens i := rfl
  have hN := bkN_lt lens i
  obtain ⟨ah, hah⟩ : ∃ y, min sk (bkN lens i) = y := ⟨_, rfl⟩
  obtain ⟨kk, hkk⟩ : ∃ y, min (bkN lens i - ah) (bs.length - dn) = y := ⟨_, rfl⟩
  have hst : scStep (pg22 0 8) bs ⟨bkA ats i, bkN lens i, 2, 0⟩ (sk, dn, fr, d) = (sk - ah, dn + kk, wrF fr (pg22 0 8) (bkA ats i + ah) ((bs.drop dn).take kk), wrE fr (pg22 0 8) (bkA ats i + ah) d kk) := by
    rw [scStep, if_pos ⟨by simp [wrB], hown⟩]; dsimp only; rw [hah, hkk]
  rw [hst]
  have hosub : ownB fr.length (pg22 0 8) (bkA ats i + ah) kk = true := own_subP hown (by omega)
  have hbkl : ((bs.drop dn).take kk).length = kk := by rw [List.length_take, List.length_drop]; omega
  have hw : wrF fr (pg22 0 8) (bkA ats i + ah) ((bs.drop dn).take kk) = wrK fr (pg22 0 8) (bkA ats i + ah) ((bs.drop dn).take kk) kk := by rw [wrF, hbkl, if_pos hosub]
  refine ⟨by dsimp only; omega, by dsimp only; omega, by dsimp only; rw [(wrF_ok h4).2]; exact h3, (wrF_ok h4).1, ?_⟩
  dsimp only
  rw [hw]
  intro j q hj hq hf hlt
  rcases Nat.lt_or_ge j i with hji | hji
  · have hle := bkP_mono lens (show j + 1 ≤ i by omega)
    have hpj : bkP lens (j + 1) = bkP lens j + bkN lens j := rfl
    rw [wr_nf h4 hP (bk_frm h3 ats lens (by omega) hq) kk (fun x hx => ?_)]
    · exact h5 j q hji hq hf (by omega)
    · have hxn : ah + x < bkN lens i := by omega
      refine ⟨by rw [Nat.add_assoc]; exact bk_frm h3 ats lens hi hxn, ?_⟩
      rw [Nat.add_assoc, bk_whr ats lens hi hxn, bk_whr ats lens (by omega) hq]; omega
  · have hji' : j = i := by omega
    subst hji'
    have hqa : ah ≤ q ∧ q - ah < kk ∧ dn + (q - ah) = bkP lens j + q - f := by omega
    have hr := wr_rd (fr := fr) (pg := pg22 0 8) (pa := bkA ats j + ah) (bs := (bs.drop dn).take kk) h4 hP ((hb.drop _).take _) (by rw [hbkl]; exact (ownB_nat.1 hosub).2) (by rw [hbkl]; omega) kk (by rw [hbkl]; exact Nat.le_refl _) (q - ah) hqa.2.1
    rw [show bkA ats j + ah + (q - ah) = bkA ats j + q by omega] at hr
    rw [hr, ← hqa.2.2, List.getD_eq_getElem?_getD, List.getElem?_take_of_lt hqa.2.1, List.getElem?_drop, ← List.getD_eq_getElem?_getD]
theorem bk_all {ats lens bs : List Nat} {f m : Nat} {fr : List Frm} {d : Nat} (hb : By bs) (hm : m ≤ 7) (hF : Frs fr) (hl : fr.length = 9) : ∀ i, i ≤ m → BkOk ats lens bs f i (scK fr (pg22 0 8) d (bkO ats lens 2 m) (f : Int) bs i)
  | 0, _ => ⟨by simp [scK, bkP], by simp [scK, bkP], hl, hF, fun j q hj => by omega⟩
  | i + 1, hi => by
    rw [scK, bkO_get (by omega)]
    exact bk_step hb (by omega) (bk_all hb hm hF hl i (by omega))
/-- What is gathered of them. -/
theorem bk_gth {ats lens : List Nat} {m : Nat} {fr : List Frm} (hm : m ≤ 7) (hl : fr.length = 9) : ∀ i, i ≤ m → (gthK fr (pg22 0 8) (bkO ats lens 0 m) 10000 i).length = bkP lens i ∧ ∀ j q, j < i → q < bkN lens j → (gthK fr (pg22 0 8) (bkO ats lens 0 m) 10000 i).getD (bkP lens j + q) 0 = rdv fr (pg22 0 8) (bkA ats j + q)
  | 0, _ => ⟨rfl, fun j q hj => by omega⟩
  | i + 1, hi => by
    obtain ⟨h1, h2⟩ := bk_gth (ats := ats) (lens := lens) (fr := fr) hm hl i (by omega)
    have hN := bkN_lt lens i
    have hP := bkP_le lens i
    have hpi : bkP lens (i + 1) = bkP lens i + bkN lens i := rfl
    have hrd : rdO fr (pg22 0 8) (bkA ats i) (bkN lens i) = rdL fr (pg22 0 8) (bkA ats i) (bkN lens i) := by rw [rdO, if_pos (bk_own hl ats lens (by omega)), Int.toNat_natCast]
    have hst : gthK fr (pg22 0 8) (bkO ats lens 0 m) 10000 (i + 1) = gthK fr (pg22 0 8) (bkO ats lens 0 m) 10000 i ++ rdL fr (pg22 0 8) (bkA ats i) (bkN lens i) := by
      rw [gthK, bkO_get (by omega)]
      rw [if_neg (by simp [wrB]), hrd, List.take_of_length_le (by rw [rdL_len, roomN, h1]; omega)]
    rw [hst]
    refine ⟨by rw [List.length_append, rdL_len, h1, hpi], fun j q hj hq => ?_⟩
    rcases Nat.lt_or_ge j i with hji | hji
    · have hle := bkP_mono lens (show j + 1 ≤ i by omega)
      have hpj : bkP lens (j + 1) = bkP lens j + bkN lens j := rfl
      rw [List.getD_eq_getElem?_getD, List.getElem?_append_left (by omega), ← List.getD_eq_getElem?_getD]
      exact h2 j q hji hq
    · have : j = i := by omega
      subst this
      rw [List.getD_eq_getElem?_getD, List.getElem?_append_right (by omega), h1, Nat.add_sub_cancel_left]
      simp [rdL, hq]
theorem bkP_find (lens : List Nat) : ∀ m p, p < bkP lens m → ∃ j q, j < m ∧ q < bkN lens j ∧ p = bkP lens j + q
  | 0, p, h => by simp [bkP] at h
  | m + 1, p, h => by
    rcases Nat.lt_or_ge p (bkP lens m) with q | q
    · obtain ⟨j, x, h1, h2, h3⟩ := bkP_find lens m p q
      exact ⟨j, x, by omega, h2, h3⟩
    · exact ⟨m, p - bkP lens m, by omega, by rw [bkP] at h; omega, by omega⟩
/-- There and back. -/
theorem bk_back {ats lens bs : List Nat} {f m : Nat} {fr : List Frm} {d : Nat} (hb : By bs) (hm : m ≤ 7) (hF : Frs fr) (hl : fr.length = 9) :
    (scK fr (pg22 0 8) d (bkO ats lens 2 m) (f : Int) bs m).2.1 = min bs.length (bkP lens m - f) ∧
    (gthK (scK fr (pg22 0 8) d (bkO ats lens 2 m) (f : Int) bs m).2.2.1 (pg22 0 8) (bkO ats lens 0 m) 10000 m).length = bkP lens m ∧
    ∀ n, n = min bs.length (bkP lens m - f) → n ≠ 0 → ((gthK (scK fr (pg22 0 8) d (bkO ats lens 2 m) (f : Int) bs m).2.2.1 (pg22 0 8) (bkO ats lens 0 m) 10000 m).drop f).take n = bs.take n := by
  have h := bk_all (ats := ats) (lens := lens) (bs := bs) (f := f) (d := d) hb hm hF hl m (Nat.le_refl _)
  obtain ⟨g1, g2⟩ := bk_gth (ats := ats) (lens := lens) (m := m) (fr := (scK fr (pg22 0 8) d (bkO ats lens 2 m) (f : Int) bs m).2.2.1) hm h.len m (Nat.le_refl _)
  refine ⟨h.dn, g1, fun n hn hn0 => ?_⟩
  apply List.ext_getElem
  · rw [List.length_take, List.length_take, List.length_drop, g1]; omega
  · intro k k1 k2
    rw [List.length_take] at k2
    obtain ⟨j, q, hj, hq, hp⟩ := bkP_find lens m (f + k) (by omega)
    have e1 := g2 j q hj hq
    have e2 := h.there j q hj hq (by omega) (by rw [h.dn]; omega)
    rw [← hp] at e1 e2
    rw [show f + k - f = k by omega] at e2
    rw [List.getElem_take, List.getElem_drop, List.getElem_take]
    have hlt : f + k < (gthK (scK fr (pg22 0 8) d (bkO ats lens 2 m) (f : Int) bs m).2.2.1 (pg22 0 8) (bkO ats lens 0 m) 10000 m).length := by rw [g1]; omega
    rw [List.getD_eq_getElem?_getD, List.getElem?_eq_getElem hlt, Option.getD_some] at e1
    rw [List.getD_eq_getElem?_getD, List.getElem?_eq_getElem (show k < bs.length by omega), Option.getD_some] at e2
    rw [e1, e2]
end Go.Proofs.Ytpmacnfjafpdcab
