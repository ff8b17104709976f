/-
  Layer 16 and 23: words at multiples of four, where pages lie at their own numbers. Plain.
-/
import Derived.Test.YtechkfopkpkigaaQueueC
namespace Go.Proofs.Ytechkfopkpkigaa
open Go.RowKit
set_option linter.unusedSimpArgs false
set_option linter.unusedVariables false
set_option maxRecDepth 20000

theorem putB_get {l : List Nat} {o k x j : Nat} (h : o + k ≤ l.length) : (putB l o k x).getD j 0 = if o ≤ j ∧ j < o + k then (leB k x).getD (j - o) 0 else l.getD j 0 := by
  have hn : (leB k x).length = k := leB_len k x
  have ht : (l.take o).length = o := by rw [List.length_take]; omega
  unfold putB
  simp only [List.getD_eq_getElem?_getD]
  by_cases h1 : j < o
  · rw [if_neg (by omega), List.append_assoc, List.getElem?_append_left (by omega), List.getElem?_take, if_pos h1]
  · by_cases h2 : j < o + k
    · rw [if_pos ⟨by omega, h2⟩, List.getElem?_append_left (by rw [List.length_append]; omega), List.getElem?_append_right (by omega), ht]
    · rw [if_neg (by omega), List.getElem?_append_right (by rw [List.length_append]; omega), List.length_append, ht, hn, List.getElem?_drop, show o + k + (j - (o + k)) = j by omega]
theorem ld_svW {fr : List Frm} {i i' o o' k x : Nat} (hF : Frs fr) (hi : i < fr.length) (hi' : i' < fr.length) (hk : k = 1 ∨ k = 2 ∨ k = 4) (ho : o + k ≤ 64) (ho' : o' < 64) :
    ldN (svF fr i o k x) i' o' 1 = if i = i' ∧ o ≤ o' ∧ o' < o + k then (leB k x).getD (o' - o) 0 else ldN fr i' o' 1 := by
  have hs : svOk fr (i : Int) (o : Int) (k : Int) = true := svOk_of hi hk ho
  have hF' := svF_ok (f := i) (off := o) (w := k) (v := x) hF
  have e1 := (ldN_nat (k := 1) hF' (i := i') (o := o') (by rw [svF_len]; exact hi') (by omega) (by omega)).1
  have e2 := (ldN_nat (k := 1) hF (i := i') (o := o') hi' (by omega) (by omega)).1
  have hl := (hF.get hi).1
  show ldN (svF fr i o k x) i' o' ((1 : Nat) : Int) = if i = i' ∧ o ≤ o' ∧ o' < o + k then (leB k x).getD (o' - o) 0 else ldN fr i' o' ((1 : Nat) : Int)
  rw [e1, e2, svF, if_pos hs, Int.toNat_natCast, Int.toNat_natCast, Int.toNat_natCast, getD_set hi]
  by_cases e : i = i'
  · subst e
    have hpl : (putB (fr.getD i []) o k x).length = (fr.getD i []).length := putB_len (by rw [hl]; exact ho)
    rw [if_pos rfl, take_one (by rw [hpl, hl]; exact ho'), take_one (by rw [hl]; exact ho'), putB_get (by rw [hl]; exact ho)]
    by_cases c : o ≤ o' ∧ o' < o + k
    · rw [if_pos c, if_pos ⟨rfl, c⟩]
    · rw [if_neg c, if_neg (fun q => c q.2)]
  · rw [if_neg e, if_neg (fun h => e h.1)]
theorem id23 : ∀ i, i < 8 → gGot (pg23 8) ((i : Nat) : Int) = ((i : Int), 3) := by decide +kernel
theorem fnd23 : ∀ k, k < 128 → fndE 8 (pg23 8) (4 * k) 4 2 = 0 ∧ fndE 8 (pg23 8) (4 * k) 4 1 = 0 := by decide +kernel
theorem own23 : ∀ k, k < 128 → ownB 8 (pg23 8) (4 * k) 4 = true := by decide +kernel
theorem wh23 {a : Nat} (h : a < 512) : whr (pg23 8) a = ((a / 64 : Nat) : Int) := by rw [whr, pgI, id23 _ (by omega)]
theorem rdv_save {fr : List Frm} (hF : Frs fr) (hl : fr.length = 8) {k x a : Nat} (hk : k < 128) (ha : a < 512) :
    rdv (vsvF fr (pg23 8) (4 * k) 4 x) (pg23 8) a = if 4 * k ≤ a ∧ a < 4 * k + 4 then (leB 4 x).getD (a - 4 * k) 0 else rdv fr (pg23 8) a := by
  rw [vsvF, hl, if_pos (fnd23 k hk).1, id23 (4 * k / 64) (by omega), rdv, wh23 ha, rdv, wh23 ha]
  refine (ld_svW (i := 4 * k / 64) (i' := a / 64) (o := 4 * k % 64) (o' := a % 64) (k := 4) hF (by omega) (by omega) (by omega) (by omega) (by omega)).trans ?_
  by_cases c : 4 * k ≤ a ∧ a < 4 * k + 4
  · rw [if_pos c, if_pos (by omega), show a % 64 - 4 * k % 64 = a - 4 * k by omega]
  · rw [if_neg c, if_neg (by omega)]
theorem rdv_wrK {fr : List Frm} (hF : Frs fr) (hl : fr.length = 8) {pa a : Nat} {bs : List Nat} (hb : By bs) (hpa : pa + bs.length ≤ 512) (ha : a < 512) : ∀ n, n ≤ bs.length →
    rdv (wrK fr (pg23 8) pa bs n) (pg23 8) a = if pa ≤ a ∧ a < pa + n then bs.getD (a - pa) 0 else rdv fr (pg23 8) a
  | 0, _ => by rw [if_neg (by omega)]; rfl
  | n + 1, hn => by
    obtain ⟨hFn, hln⟩ := wrK_ok (pg := pg23 8) (pa := pa) (bs := bs) hF n
    have ih := rdv_wrK hF hl hb hpa ha n (by omega)
    have hbn : bs.getD n 0 < 256 := by rw [List.getD_eq_getElem?_getD, List.getElem?_eq_getElem (by omega)]; exact hb.get (by omega)
    rw [rdv, wh23 ha] at ih ⊢
    rw [wrK, wh23 (by omega)]
    refine (ld_svW (i := (pa + n) / 64) (i' := a / 64) (o := (pa + n) % 64) (o' := a % 64) (k := 1) hFn (by omega) (by omega) (by omega) (by omega) (by omega)).trans ?_
    by_cases c : a = pa + n
    · subst c
      rw [if_pos (by omega), if_pos (by omega), show (pa + n) % 64 - (pa + n) % 64 = 0 by omega, show pa + n - pa = n by omega]
      rw [show leB 1 (bs.getD n 0) = [bs.getD n 0 % 256] by simp [leB], List.getD_cons_zero, Nat.mod_eq_of_lt hbn]
    · rw [if_neg (by omega), ih]
      by_cases c2 : pa ≤ a ∧ a < pa + n
      · rw [if_pos c2, if_pos (by omega)]
      · rw [if_neg c2, if_neg (by omega)]
/-- The word at four times k. -/
def wd (fr : List Frm) (k : Nat) : Nat := wrdW fr (pg23 8) (4 * k)
theorem wd_eq {fr : List Frm} (hl : fr.length = 8) {k : Nat} (hk : k < 128) : wd fr k = leN (rdL fr (pg23 8) (4 * k) 4) := by rw [wd, wrdW, hl, if_pos (own23 k hk)]
theorem wd_lt {fr : List Frm} (hF : Frs fr) (k : Nat) : wd fr k < 4294967296 := wrdW_lt hF _ _
theorem wd_of {fr : List Frm} (hl : fr.length = 8) {k x : Nat} (hk : k < 128) (hx : x < 4294967296) (h : ∀ i, i < 4 → rdv fr (pg23 8) (4 * k + i) = (leB 4 x).getD i 0) : wd fr k = x := by
  have e : rdL fr (pg23 8) (4 * k) 4 = leB 4 x := by
    apply List.ext_getElem
    · rw [rdL_len, leB_len]
    · intro i h1 h2
      rw [leB_len] at h2
      simp only [rdL, List.getElem_map, List.getElem_range]
      rw [h i h2, List.getD_eq_getElem?_getD, List.getElem?_eq_getElem (by rw [leB_len]; exact h2)]; rfl
  rw [wd_eq hl hk, e, leN_leB]; exact Nat.mod_eq_of_lt (by simpa using hx)
theorem wd_congr {fr fr' : List Frm} (hl : fr.length = 8) (hl' : fr'.length = 8) {k : Nat} (hk : k < 128) (h : ∀ i, i < 4 → rdv fr' (pg23 8) (4 * k + i) = rdv fr (pg23 8) (4 * k + i)) : wd fr' k = wd fr k := by
  rw [wd_eq hl hk, wd_eq hl' hk]
  congr 1
  apply List.map_congr_left
  intro i hi
  exact h i (List.mem_range.1 hi)
theorem wd_save {fr : List Frm} (hF : Frs fr) (hl : fr.length = 8) {k x j : Nat} (hk : k < 128) (hj : j < 128) (hx : x < 4294967296) : wd (vsvF fr (pg23 8) (4 * k) 4 x) j = if j = k then x else wd fr j := by
  have hl' : (vsvF fr (pg23 8) (4 * k) 4 x).length = 8 := (vsvF_ok hF).2.trans hl
  by_cases e : j = k
  · subst e; rw [if_pos rfl]
    exact wd_of hl' hj hx fun i hi => by rw [rdv_save hF hl hk (by omega), if_pos (by omega), show 4 * j + i - 4 * j = i by omega]
  · rw [if_neg e]
    exact wd_congr hl hl' hj fun i hi => by rw [rdv_save hF hl hk (by omega), if_neg (by omega)]
theorem bytesL_one (x : Nat) : bytesL [x] = leB 4 x := by simp [bytesL]
theorem wd_write {fr : List Frm} (hF : Frs fr) (hl : fr.length = 8) {k x j : Nat} (hk : k < 128) (hj : j < 128) (hx : x < 4294967296) : wd (wrF fr (pg23 8) (4 * k) (bytesL [x])) j = if j = k then x else wd fr j := by
  have hl' : (wrF fr (pg23 8) (4 * k) (bytesL [x])).length = 8 := (wrF_ok hF).2.trans hl
  have hb := bytesL_by [x]
  have hn : (bytesL [x]).length = 4 := by rw [bytesL_len]; rfl
  have hr : ∀ a, a < 512 → rdv (wrF fr (pg23 8) (4 * k) (bytesL [x])) (pg23 8) a = if 4 * k ≤ a ∧ a < 4 * k + 4 then (leB 4 x).getD (a - 4 * k) 0 else rdv fr (pg23 8) a := fun a ha => by
    rw [wrF, hl, hn, if_pos (show ownB 8 (pg23 8) (4 * k) ((4 : Nat) : Int) = true from own23 k hk), rdv_wrK hF hl hb (by omega) ha 4 (by omega), bytesL_one]
  by_cases e : j = k
  · subst e; rw [if_pos rfl]
    exact wd_of hl' hj hx fun i hi => by rw [hr _ (by omega), if_pos (by omega), show 4 * j + i - 4 * j = i by omega]
  · rw [if_neg e]
    exact wd_congr hl hl' hj fun i hi => by rw [hr _ (by omega), if_neg (by omega)]
theorem ld_wd {fr : List Frm} (hF : Frs fr) (hl : fr.length = 8) {k : Nat} (hk : k < 128) : vldN fr (pg23 8) (4 * k) 4 = wd fr k := by
  rw [vldN, hl, if_pos (fnd23 k hk).2, id23 (4 * k / 64) (by omega), wd_eq hl hk]
  refine (ldN_nat (i := 4 * k / 64) (o := 4 * k % 64) (k := 4) hF (by omega) (by omega) (by omega)).1.trans ?_
  have hfl := (hF.get (f := 4 * k / 64) (by omega)).1
  have hld : ∀ i, i < 4 → ldN fr ((4 * k / 64 : Nat) : Int) ((4 * k % 64 + i : Nat) : Int) 1 = (fr.getD (4 * k / 64) []).getD (4 * k % 64 + i) 0 := fun i hi => by
    refine (ldN_nat (i := 4 * k / 64) (o := 4 * k % 64 + i) (k := 1) hF (by omega) (by omega) (by omega)).1.trans ?_
    rw [take_one (by rw [hfl]; omega)]
  generalize fr.getD (4 * k / 64) [] = L at hfl hld
  congr 1
  apply List.ext_getElem
  · rw [rdL_len, List.length_take, List.length_drop, hfl]; omega
  · intro i h1 h2
    rw [rdL_len] at h2
    simp only [rdL, List.getElem_map, List.getElem_range]
    rw [rdv, wh23 (by omega), show (4 * k + i) / 64 = 4 * k / 64 by omega, show (4 * k + i) % 64 = 4 * k % 64 + i by omega]
    rw [hld i h2, List.getElem_take, List.getElem_drop, List.getD_eq_getElem?_getD, List.getElem?_eq_getElem (by rw [hfl]; omega)]; rfl
end Go.Proofs.Ytechkfopkpkigaa
