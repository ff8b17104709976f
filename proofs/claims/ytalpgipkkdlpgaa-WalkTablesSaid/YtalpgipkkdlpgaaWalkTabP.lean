/-
  Layer 17 (walk): what a walk read. Plain.
-/
import Derived.Test.YtalpgipkkdlpgaaWalkLaw
namespace Go.Proofs.Ytalpgipkkdlpgaa
set_option linter.unusedSimpArgs false
set_option linter.unusedVariables false

/-- Every page that is there may be loaded of. -/
def OddP (pg : List Pl) : Prop := ∀ n : Nat, n < 12 → plAt pg n ≠ (0, 0) → (plAt pg n).2 % 2 = 1
theorem plAt_set {pg : List Pl} {i n : Nat} {p : Pl} (h : i < pg.length) : plAt (pg.set i p) n = if i = n then p else plAt pg n := getD_set h
theorem pg17_odd (gone : Nat) : ∀ i, i ≤ 10 → OddP (pg17 gone i)
  | 0, _ => fun n hn hne => absurd (by
      unfold plAt; rw [pg17, List.getD_eq_getElem?_getD, List.getElem?_replicate]; split <;> rfl) hne
  | i + 1, hi => by
    have ih := pg17_odd gone i (by omega)
    have hl := (pg17_ok gone i).len
    rw [pg17]; split
    · unfold setP; split
      · intro n hn hne
        rw [plAt_set (by simp; omega)] at hne ⊢
        split
        · have : i / 9 = 0 ∨ i / 9 = 1 := by omega
          show (((3 - 2 * (i / 9) : Nat) : Int)) % 2 = 1
          rcases this with q | q <;> rw [q] <;> decide
        · rename_i h1
          rw [if_neg h1] at hne
          exact ih n hn hne
      · exact ih
    · exact ih
theorem tbl_page {len : Nat} {pg : List Pl} {page : Int} {i : Nat} (h : tblB len pg page i = true) : ∃ p : Nat, page = (p : Int) ∧ p < 8 ∧ frmB len pg page = true := by
  obtain ⟨⟨h1, h2⟩, h3⟩ := tblB_iff.1 h
  obtain ⟨p, rfl⟩ : ∃ p : Nat, page = (p : Int) := ⟨page.toNat, by omega⟩
  refine ⟨p, rfl, by omega, ?_⟩
  have h4 := (ownB_nat (n := 4)).1 h3
  have h5 := h4.2 0 (by decide)
  have : pgI (tblPa (p : Int) i + 0) = (p : Int) := by unfold pgI tblPa; omega
  rw [this] at h5; exact h5
theorem tbl_own {len : Nat} {pg : List Pl} {page : Int} {i : Nat} (h : tblB len pg page i = true) : ownB len pg (64 * page.toNat) 64 = true := by
  obtain ⟨p, rfl, hp, hf⟩ := tbl_page h
  refine (ownB_nat (n := 64)).2 ⟨by omega, fun k hk => ?_⟩
  have : pgI (64 * (p : Int).toNat + k) = (p : Int) := by unfold pgI; omega
  rw [this]; exact hf
/-- A table's word is what is loaded there. -/
theorem tbl_load {fr : List Frm} {pg : List Pl} (hF : Frs fr) (hP : Pgs pg) (ho : OddP pg) {page : Int} {i : Nat} (h : tblB fr.length pg page i = true) :
    fndE fr.length pg (tblPa page i) 4 1 = 0 ∧ vldN fr pg (tblPa page i) 4 = tblW fr pg page i := by
  obtain ⟨p, rfl, hp, hf⟩ := tbl_page h
  obtain ⟨ht, h8, hl⟩ := frmB_iff.1 hf
  have hpa : tblPa (p : Int) i = 64 * p + 4 * (i % 16) := rfl
  have hd : ((tblPa (p : Int) i / 64 : Nat) : Int) = (p : Int) := by rw [hpa]; omega
  have hgot : gGot pg (p : Int) = plAt pg p := by rw [gGot, if_pos ht]; rfl
  have hne : plAt pg p ≠ (0, 0) := by
    simp only [thereB, Bool.and_eq_true, decide_eq_true_eq] at ht
    exact ht.2
  have hodd := ho p (by omega) hne
  have ha : alwE pg (p : Int) 1 = 0 := by
    rw [alwE, if_pos ht, if_pos]
    show mayB (p : Int) (plAt pg p) 1 = true
    rw [mayB]; exact decide_eq_true (.inr (.inl ⟨rfl, hodd⟩))
  have h0 : fndE fr.length pg (tblPa (p : Int) i) 4 1 = 0 := by
    rw [fndE, if_pos, if_pos (by omega), hd, if_pos ha, if_pos hl]
    unfold alB; exact decide_eq_true (by omega)
  refine ⟨h0, ?_⟩
  rw [vldN, if_pos h0, tblW, if_pos h, hd]
  have hk := okPl_iff.1 (gGot_ok hP ht)
  obtain ⟨f, hfe⟩ : ∃ f : Nat, (gGot pg (p : Int)).1 = (f : Int) := ⟨(gGot pg (p : Int)).1.toNat, by omega⟩
  have hfl : f < fr.length := by omega
  rw [hfe]
  have hY := (hF.get hfl).1
  have e0 : ∀ k, k < 4 → rdv fr pg (tblPa (p : Int) i + k) = (fr.getD f []).getD (tblPa (p : Int) i % 64 + k) 0 := fun k hk4 => by
    rw [rdv, show whr pg (tblPa (p : Int) i + k) = (f : Int) by rw [whr, show pgI (tblPa (p : Int) i + k) = (p : Int) by unfold pgI; omega]; exact hfe]
    rw [show (tblPa (p : Int) i + k) % 64 = tblPa (p : Int) i % 64 + k by omega]
    have e3 := (ldN_nat (k := 1) (o := tblPa (p : Int) i % 64 + k) hF hfl (by omega) (by omega)).1
    exact e3.trans (take_one (by rw [hY]; omega))
  have e1 := (ldN_nat (k := 4) (o := tblPa (p : Int) i % 64) hF hfl (by omega) (by omega)).1
  refine Eq.trans e1 (congrArg leN ?_)
  generalize fr.getD f [] = Y at hY e0
  have ho4 : tblPa (p : Int) i % 64 + 4 ≤ 64 := by omega
  generalize tblPa (p : Int) i % 64 = o at e0 ho4
  apply List.ext_getElem
  · rw [rdL_len, List.length_take, List.length_drop, hY]; omega
  · intro k h1 h2
    have hk4 : k < 4 := by rw [rdL_len] at h2; exact h2
    simp only [rdL, List.getElem_map, List.getElem_range, List.getElem_take, List.getElem_drop]
    rw [e0 k hk4, List.getD_eq_getElem?_getD, List.getElem?_eq_getElem (by rw [hY]; omega)]; rfl
/-- Where a walk can end. -/
theorem wkR_cases (fr : List Frm) (pg : List Pl) (root : Int) (va : Nat) :
    ((wkR fr pg root va).root = -1 ∧ (wkR fr pg root va).leaf = -1 ∧ (wkR fr pg root va).fault ≠ 0 ∧ (wkR fr pg root va).on = false ∧ (wkR fr pg root va).r = 0 ∧ (wkR fr pg root va).p = 0) ∨
    ((wkR fr pg root va).root = root ∧ va < 16384 ∧ tblB fr.length pg root (va / 1024) = true ∧ (wkR fr pg root va).leaf = -1 ∧ (wkR fr pg root va).fault ≠ 0 ∧ (wkR fr pg root va).on = false ∧ (wkR fr pg root va).r = 0 ∧ (wkR fr pg root va).p = 0) ∨
    ∃ w1 a w2, w1 = tblW fr pg root (va / 1024) ∧ a = tabP w1 ∧ w2 = tblW fr pg a (va / 64) ∧ va < 16384 ∧ tblB fr.length pg root (va / 1024) = true ∧ tabF w1 = 0 ∧ tblB fr.length pg a (va / 64) = true ∧ wkR fr pg root va = ⟨lfOn w2, lfR w2, lfP w2, leafF w2, root, a⟩ := by
  by_cases hv : va < 16384
  · by_cases hb : tblB fr.length pg root (va / 1024) = true
    · by_cases hz : tabF (tblW fr pg root (va / 1024)) = 0
      · have hrb : rtB fr pg va root = true := by rw [rtB, hb, Bool.true_and]; exact decide_eq_true hz
        have hra : rtA fr pg va root = tabP (tblW fr pg root (va / 1024)) := by rw [rtA, if_pos hb]
        by_cases hl : tblB fr.length pg (tabP (tblW fr pg root (va / 1024))) (va / 64) = true
        · refine .inr (.inr ⟨_, _, _, rfl, rfl, rfl, hv, hb, hz, hl, ?_⟩)
          rw [wkR, if_pos hv, if_pos hrb]; simp only [wkQ, lfS, hra]; rw [if_pos hl, rtS, if_pos hb]
        · have e : wkR fr pg root va = { ws0 with root := root, fault := 3 } := by
            rw [wkR, if_pos hv, if_pos hrb]; simp only [wkQ, lfS, hra]; rw [if_neg hl, rtS, if_pos hb]
          rw [e]
          exact .inr (.inl ⟨rfl, hv, hb, rfl, (by show (3 : Int) ≠ 0; decide), rfl, rfl, rfl⟩)
      · have e : wkR fr pg root va = { ws0 with root := root, fault := tabF (tblW fr pg root (va / 1024)) } := by
          rw [wkR, if_pos hv, if_neg (by rw [rtB, hb, Bool.true_and, decide_eq_true_iff]; exact hz)]; simp only [wkQ, rtS]; rw [if_pos hb]
        rw [e]
        exact .inr (.inl ⟨rfl, hv, hb, rfl, hz, rfl, rfl, rfl⟩)
    · have e : wkR fr pg root va = { ws0 with fault := 3 } := by
        have hb' : tblB fr.length pg root (va / 1024) = false := by simpa using hb
        rw [wkR, if_pos hv, if_neg (by rw [rtB, hb']; simp)]; simp only [wkQ, rtS]; rw [if_neg hb]
      rw [e]
      exact .inl ⟨rfl, rfl, by decide, rfl, rfl, rfl⟩
  · have e : wkR fr pg root va = { ws0 with fault := 2 } := by rw [wkR, if_neg hv]; simp only [wkQ]; rw [if_neg hv]
    rw [e]
    exact .inl ⟨rfl, rfl, by decide, rfl, rfl, rfl⟩
end Go.Proofs.Ytalpgipkkdlpgaa
