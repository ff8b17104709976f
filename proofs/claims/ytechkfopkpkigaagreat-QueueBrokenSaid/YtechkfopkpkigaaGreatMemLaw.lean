/-
  Layer 16 (view): what stands where, behind saving and writing. Plain.
-/
import Derived.Test.YtechkfopkpkigaaGreatRefViewC
namespace Go.Proofs.YtechkfopkpkigaaGreat
open Go.RowKit
set_option linter.unusedSimpArgs false
set_option linter.unusedVariables false
set_option maxRecDepth 20000

abbrev prH (pv ps pm qv qs qm d : Nat) (fr : List Frm) (pg : List Pl) (R : List HP) : List HP :=
  pt pv (viO ps pm d) :: stoH ps fr :: pt pm (gmO pg) :: pt qv (rvO qs qm d) :: rstoH qs fr :: pt qm (rgO pg) :: R

def fndP (n : Nat) (pg : List Pl) (pa : Nat) (w kind : Int) : Int := if fndE n pg pa w kind = 0 then ((pa / 64 : Nat) : Int) else 0
def fndF (n : Nat) (pg : List Pl) (pa : Nat) (w kind : Int) : Int := if fndE n pg pa w kind = 0 then (gGot pg ((pa / 64 : Nat) : Int)).1 else 0
def fndO (n : Nat) (pg : List Pl) (pa : Nat) (w kind : Int) : Int := if fndE n pg pa w kind = 0 then ((pa % 64 : Nat) : Int) else 0
theorem fndV_eq {n : Nat} {pg : List Pl} {pa : Nat} {w kind : Int} : fndV n pg pa w kind = [.int .i64 (fndP n pg pa w kind), .int .i64 (fndF n pg pa w kind), .int .i64 (fndO n pg pa w kind), .bool false] := by
  unfold fndV fndP fndF fndO; split <;> rfl
theorem vsvF_ok {fr : List Frm} {pg : List Pl} {pa : Nat} {w : Int} {x : Nat} (h : Frs fr) : Frs (vsvF fr pg pa w x) ∧ (vsvF fr pg pa w x).length = fr.length := by
  unfold vsvF; split
  · exact ⟨svF_ok h, svF_len⟩
  · exact ⟨h, rfl⟩
theorem vsvD_lt {fr : List Frm} {pg : List Pl} {pa d : Nat} {w : Int} (h : d < 4096) : vsvD fr pg pa w d < 4096 := by
  unfold vsvD; split
  · rename_i hs; exact Nat.or_lt_two_pow (n := 12) h (page_lt (by have := (fnd_ok hs).1; omega))
  · exact h
theorem svOk_nat {fr : List Frm} {f off w : Int} (h : svOk fr f off w = true) : ∃ i o k : Nat, f = (i : Int) ∧ off = (o : Int) ∧ w = (k : Int) ∧ i < fr.length ∧ (k = 1 ∨ k = 2 ∨ k = 4) ∧ o + k ≤ 64 := by
  simp only [svOk, Bool.and_eq_true] at h
  obtain ⟨i, rfl, hi⟩ := isF_nat h.1
  obtain ⟨o, k, rfl, rfl, hk, hok⟩ := inB_nat h.2
  exact ⟨i, o, k, rfl, rfl, rfl, hi, hk, hok⟩
theorem svOk_of {fr : List Frm} {i o k : Nat} (hi : i < fr.length) (hk : k = 1 ∨ k = 2 ∨ k = 4) (ho : o + k ≤ 64) : svOk fr i o k = true := by
  simp only [svOk, Bool.and_eq_true]
  exact ⟨isF_iff.2 (by omega), inB_iff.2 (by omega)⟩
theorem ldN_nat {fr : List Frm} {i o k : Nat} (hF : Frs fr) (hi : i < fr.length) (hk : k = 1 ∨ k = 2 ∨ k = 4) (ho : o + k ≤ 64) : ldN fr i o k = leN (((fr.getD i []).drop o).take k) ∧ ldE fr i o k = 0 := by
  have h1 : isF fr.length (i : Int) = true := isF_iff.2 (by omega)
  have hl := (hF.get hi).1
  have h2 : inB (fr.getD i []).length (o : Int) (k : Int) = true := inB_iff.2 (by omega)
  constructor
  · rw [ldN, if_pos h1, Int.toNat_natCast, getN, if_pos h2, Int.toNat_natCast, Int.toNat_natCast]
  · rw [ldE, if_pos h1, Int.toNat_natCast, getE, if_pos h2]
theorem getD_set {α : Type} {l : List α} {i j : Nat} {x d : α} (h : i < l.length) : (l.set i x).getD j d = if i = j then x else l.getD j d := by
  by_cases e : i = j
  · subst e; simp [List.getD, h]
  · simp [List.getD, List.getElem?_set_ne e, e]
theorem putB_mid {l : List Nat} {o k x : Nat} (h : o + k ≤ l.length) : ((putB l o k x).drop o).take k = leB k x := by
  unfold putB
  rw [List.append_assoc, List.drop_append_of_le_length (by simp; omega), List.drop_of_length_le (by simp; omega), List.nil_append, List.take_append_of_le_length (by rw [leB_len]; exact Nat.le_refl _), List.take_of_length_le (by rw [leB_len]; exact Nat.le_refl _)]
theorem ld_sv {fr : List Frm} {f off w : Int} {x : Nat} (hF : Frs fr) (hs : svOk fr f off w = true) : ldN (svF fr f off w x) f off w = x % 256 ^ w.toNat ∧ ldE (svF fr f off w x) f off w = 0 := by
  have hF' := svF_ok (f := f) (off := off) (w := w) (v := x) hF
  obtain ⟨i, o, k, rfl, rfl, rfl, hi, hk, ho⟩ := svOk_nat hs
  have hi' : i < (svF fr i o k x).length := by rw [svF_len]; exact hi
  obtain ⟨e1, e2⟩ := ldN_nat hF' hi' hk ho
  refine ⟨?_, e2⟩
  rw [e1, svF, if_pos hs, Int.toNat_natCast, Int.toNat_natCast, Int.toNat_natCast, getD_set hi, if_pos rfl, putB_mid (by rw [(hF.get hi).1]; exact ho), leN_leB]
theorem putB_one {l : List Nat} {o x : Nat} (h : o < l.length) : putB l o 1 x = l.set o (x % 256) := by
  rw [List.set_eq_take_append_cons_drop, if_pos h]
  simp [putB, leB]
theorem take_one {l : List Nat} {o : Nat} (h : o < l.length) : leN ((l.drop o).take 1) = l.getD o 0 := by
  rw [List.drop_eq_getElem_cons h, List.take_succ_cons, List.take_zero]; simp [leN, List.getD, h]
theorem ld_sv_ne {fr : List Frm} {i i' o o' x : Nat} (hF : Frs fr) (hi : i < fr.length) (ho : o < 64) (ho' : o' < 64) (hne : o ≠ o') : ldN (svF fr i o 1 x) i' o' 1 = ldN fr i' o' 1 := by
  have hs : svOk fr (i : Int) (o : Int) ((1 : Nat) : Int) = true := svOk_of hi (by omega) (by omega)
  by_cases h' : i' < fr.length
  · have hF' := svF_ok (f := i) (off := o) (w := ((1 : Nat) : Int)) (v := x) hF
    have e1 := (ldN_nat (k := 1) hF' (i := i') (o := o') (by rw [svF_len]; exact h') (by omega) (by omega)).1
    have e2 := (ldN_nat (k := 1) hF (i := i') (o := o') h' (by omega) (by omega)).1
    show ldN (svF fr i o ((1 : Nat) : Int) x) i' o' ((1 : Nat) : Int) = ldN fr i' o' ((1 : Nat) : Int)
    rw [e1, e2, svF, if_pos hs, Int.toNat_natCast, Int.toNat_natCast, Int.toNat_natCast, getD_set hi]
    by_cases e : i = i'
    · subst e
      have hl := (hF.get hi).1
      rw [if_pos rfl, putB_one (by rw [hl]; omega), take_one (by rw [List.length_set, hl]; omega), take_one (by rw [hl]; omega), getD_set (by rw [hl]; omega), if_neg hne]
    · rw [if_neg e]
  · have h1 : isF fr.length (i' : Int) = false := by rw [← Bool.not_eq_true, isF_iff]; omega
    have h2 : isF (svF fr i o 1 x).length (i' : Int) = false := by rw [svF_len]; exact h1
    rw [ldN, ldN, h1, h2]; rfl
theorem frm_nat {len : Nat} {pg : List Pl} {a : Nat} (hP : Pgs pg) (h : frmB len pg (pgI a) = true) : ∃ i : Nat, whr pg a = (i : Int) ∧ i < len := by
  obtain ⟨h1, h2, h3⟩ := frmB_iff.1 h
  have hk := okPl_iff.1 (gGot_ok hP h1)
  exact ⟨(whr pg a).toNat, by unfold whr; omega, by unfold whr; omega⟩
theorem wr_rd {fr : List Frm} {pg : List Pl} {pa : Nat} {bs : List Nat} (hF : Frs fr) (hP : Pgs pg) (hb : By bs) (hown : ownA fr.length pg pa bs.length) (h64 : bs.length ≤ 64) : ∀ k, k ≤ bs.length → ∀ i, i < k → rdv (wrK fr pg pa bs k) pg (pa + i) = bs.getD i 0
  | 0, _, i, hi => by omega
  | k + 1, hk, i, hi => by
    obtain ⟨hFk, hlk⟩ := wrK_ok (pg := pg) (pa := pa) (bs := bs) hF k
    obtain ⟨f, hf, hfl⟩ := frm_nat hP (hown k (by omega))
    have hbk : bs.getD k 0 < 256 := by rw [List.getD_eq_getElem?_getD, List.getElem?_eq_getElem (by omega)]; exact hb.get (by omega)
    rw [wrK, rdv, hf]
    by_cases e : i = k
    · subst e
      rw [hf]
      have := (ld_sv (w := ((1 : Nat) : Int)) (x := bs.getD i 0) hFk (svOk_of (i := f) (o := (pa + i) % 64) (k := 1) (by omega) (by omega) (by omega))).1
      rw [Int.toNat_natCast, Nat.pow_one, Nat.mod_eq_of_lt hbk] at this
      exact this
    · obtain ⟨f', hf', hfl'⟩ := frm_nat hP (hown i (by omega))
      have ih := wr_rd hF hP hb hown h64 k (by omega) i (by omega)
      rw [rdv, hf'] at ih
      rw [hf', ld_sv_ne hFk (by omega) (by omega) (by omega) (by omega)]
      exact ih
theorem rd_wrF {fr : List Frm} {pg : List Pl} {pa : Nat} {bs : List Nat} (hF : Frs fr) (hP : Pgs pg) (hb : By bs) (ho : ownB fr.length pg pa bs.length = true) (h64 : bs.length ≤ 64) : rdO (wrF fr pg pa bs) pg pa bs.length = bs := by
  rw [rdO, (wrF_ok hF).2, if_pos ho, Int.toNat_natCast, wrF, if_pos ho]
  apply List.ext_getElem
  · simp [rdL]
  · intro i h1 h2
    have := wr_rd hF hP hb (ownB_nat.1 ho).2 h64 bs.length (Nat.le_refl _) i h2
    simp [rdL, this, List.getD, h2]
theorem drL_zero : drL 0 12 = [] := by decide
theorem drL_bit {n : Nat} (h : n < 12) : drL (0 ||| 2 ^ n) 12 = [n] := by
  have : ∀ n : Nat, n < 12 → drL (0 ||| 2 ^ n) 12 = [n] := by decide
  exact this n h
theorem fnd_al {n : Nat} {pg : List Pl} {pa : Nat} {kind : Int} (h : fndE n pg pa 4 kind = 0) : pa % 4 = 0 ∧ alwE pg ((pa / 64 : Nat) : Int) kind = 0 := by
  unfold fndE at h
  split at h
  · rename_i ha
    simp only [alB, decide_eq_true_eq] at ha
    split at h
    · split at h
      · rename_i hz; exact ⟨by omega, hz⟩
      · contradiction
    · omega
  · omega
theorem fnd_kind {n : Nat} {pg : List Pl} {pa : Nat} {kind : Int} (h : fndE n pg pa 4 2 = 0) (hk : alwE pg ((pa / 64 : Nat) : Int) kind = 0) : fndE n pg pa 4 kind = 0 := by
  have h1 := fnd_al h
  have h2 := fnd_ok h
  have ha : alB pa 4 = true := by unfold alB; have h10 := h1.1; exact decide_eq_true (by omega)
  rw [fndE, if_pos ha, if_pos h2.1, if_pos hk, if_pos h2.2.1]
theorem fnd_nat {n : Nat} {pg : List Pl} {pa : Nat} {kind : Int} (hP : Pgs pg) (h : fndE n pg pa 4 kind = 0) : ∃ i : Nat, (gGot pg ((pa / 64 : Nat) : Int)).1 = (i : Int) ∧ i < n := by
  have h2 := (fnd_ok h).2.1
  have h3 := (fnd_al h).2
  have ht : thereB pg ((pa / 64 : Nat) : Int) = true := by
    unfold alwE at h3; split at h3
    · assumption
    · omega
  have hk := okPl_iff.1 (gGot_ok hP ht)
  have h0 : 0 ≤ (gGot pg ((pa / 64 : Nat) : Int)).1 := hk.1
  generalize (gGot pg ((pa / 64 : Nat) : Int)).1 = y at h0 h2
  exact ⟨y.toNat, by omega, by omega⟩
/-- What was saved is loaded. -/
theorem back_ld {fr : List Frm} {pg : List Pl} {pa x : Nat} (hF : Frs fr) (hP : Pgs pg) (hx : x < 4294967296) (h : fndE fr.length pg pa 4 2 = 0) :
    ldN (vsvF fr pg pa 4 x) (gGot pg ((pa / 64 : Nat) : Int)).1 ((pa % 64 : Nat) : Int) 4 = x ∧ ldE (vsvF fr pg pa 4 x) (gGot pg ((pa / 64 : Nat) : Int)).1 ((pa % 64 : Nat) : Int) 4 = 0 := by
  obtain ⟨i, hi, hil⟩ := fnd_nat hP h
  have h4 := (fnd_al h).1
  rw [vsvF, if_pos h, hi]
  have hs := svOk_of (fr := fr) (i := i) (o := pa % 64) (k := 4) hil (by omega) (by omega)
  obtain ⟨e1, e2⟩ := ld_sv (x := x) hF hs
  rw [Int.toNat_natCast, show x % 256 ^ 4 = x from Nat.mod_eq_of_lt (by simpa using hx)] at e1
  exact ⟨e1, e2⟩
theorem back_vld {fr : List Frm} {pg : List Pl} {pa x : Nat} (hF : Frs fr) (hP : Pgs pg) (hx : x < 4294967296) (h : fndE fr.length pg pa 4 2 = 0) (hk : alwE pg ((pa / 64 : Nat) : Int) 1 = 0) : vldN (vsvF fr pg pa 4 x) pg pa 4 = x ∧ fndE (vsvF fr pg pa 4 x).length pg pa 4 1 = 0 := by
  have h1 := fnd_kind h hk
  rw [(vsvF_ok hF).2]
  refine ⟨?_, h1⟩
  rw [vldN, (vsvF_ok hF).2, if_pos h1]
  exact (back_ld hF hP hx h).1
end Go.Proofs.YtechkfopkpkigaaGreat
