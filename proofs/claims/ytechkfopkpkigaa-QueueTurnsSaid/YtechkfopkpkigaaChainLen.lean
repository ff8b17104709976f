/-
  Layer 22 (chain): lengths, by both texts.
-/
import Derived.Test.YtechkfopkpkigaaChainB
import Derived.Test.YtechkfopkpkigaaRefViewC
namespace Go.Proofs.Ytechkfopkpkigaa
open Go.RowKit
set_option linter.unusedSimpArgs false
set_option linter.unusedVariables false
set_option maxRecDepth 20000

def lenW (l : List Dsc) (w : Bool) : Nat := (l.map fun d => if wrB d = w then d.len else 0).sum
theorem lenW_snoc (l : List Dsc) (d : Dsc) (w : Bool) : lenW (l ++ [d]) w = lenW l w + (if wrB d = w then d.len else 0) := by simp [lenW]
theorem lenW_take {l : List Dsc} {i : Nat} (h : i < l.length) (w : Bool) : lenW (l.take (i + 1)) w = lenW (l.take i) w + (if wrB l[i] = w then l[i].len else 0) := by
  rw [List.take_succ_eq_append_getElem h, lenW_snoc]
theorem lenW_le {l : List Dsc} (hl : ∀ d ∈ l, d.ok) (w : Bool) : lenW l w ≤ l.length * 4294967296 := by
  induction l with
  | nil => simp [lenW]
  | cons d l ih =>
    have h1 := (hl d (by simp)).len
    have h2 := ih (fun x hx => hl x (by simp [hx]))
    simp only [lenW, List.map_cons, List.sum_cons, List.length_cons] at h2 ⊢
    split <;> omega
theorem dsV_flat_len (d : Dsc) : (dsV d).length = 4 := rfl
theorem wkSt_ok {fr : List Frm} (hF : Frs fr) (pg : List Pl) (r : Rg3) (head : Int) : ∀ n, ∀ d ∈ (wkSt fr pg r head n).2.2, d.ok
  | 0, d, hd => by simp [wkSt] at hd
  | n + 1, d, hd => by
    rw [wkSt] at hd
    rcases List.mem_append.1 hd with h | h
    · exact wkSt_ok hF pg r head n d h
    · obtain rfl := List.mem_singleton.1 h
      exact lk_ok hF _ _ _ _ _
theorem wkGo_or {fr : List Frm} {pg : List Pl} {r : Rg3} {head : Int} : ∀ f n, (∃ c, wkGo fr pg r head f n = ([], c) ∧ c ≠ 0) ∨ ∃ m, m < n + f ∧ wkGo fr pg r head f n = ((wkSt fr pg r head (m + 1)).2.2, 0) ∧ (lkN fr pg r head m).2 = 0 ∧ goB (lkN fr pg r head m).1 = false ∧ ∀ k, n ≤ k → k < m → (lkN fr pg r head k).2 = 0 ∧ goB (lkN fr pg r head k).1 = true
  | 0, n => .inl ⟨2, rfl, by decide⟩
  | f + 1, n => by
    rw [wkGo]
    by_cases h1 : (lkN fr pg r head n).2 ≠ 0
    · rw [if_pos h1]; exact .inl ⟨_, rfl, h1⟩
    rw [if_neg h1]
    by_cases h2 : goB (lkN fr pg r head n).1 = true
    · rw [if_pos h2]
      rcases wkGo_or f (n + 1) with h | ⟨m, hm, he, h3, h4, h5⟩
      · exact .inl h
      · refine .inr ⟨m, by omega, he, h3, h4, fun k hk hkm => ?_⟩
        rcases Nat.lt_or_ge n k with q | q
        · exact h5 k (by omega) hkm
        · rw [show k = n by omega]; exact ⟨Decidable.not_not.1 h1, h2⟩
    · rw [if_neg h2]
      exact .inr ⟨n, by omega, rfl, Decidable.not_not.1 h1, by simpa using h2, fun k hk hkm => by omega⟩
/-- What a walk gives: nothing with a fault, or a whole chain. -/
theorem wkAll_or (fr : List Frm) (pg : List Pl) (r : Rg3) (head : Int) : (∃ c, wkAll fr pg r head = ([], c) ∧ c ≠ 0) ∨ ∃ m, m < 9 ∧ wkAll fr pg r head = ((wkSt fr pg r head (m + 1)).2.2, 0) ∧ alive fr pg r head m ∧ (lkN fr pg r head m).2 = 0 ∧ goB (lkN fr pg r head m).1 = false := by
  unfold wkAll; split
  · rcases wkGo_or (fr := fr) (pg := pg) (r := r) (head := head) 9 0 with h | ⟨m, hm, he, h3, h4, h5⟩
    · exact .inl h
    · exact .inr ⟨m, by omega, he, fun k hk => h5 k (Nat.zero_le _) hk, h3, h4⟩
  · exact .inl ⟨5, rfl, by decide⟩
theorem wkAll_ok {fr : List Frm} (hF : Frs fr) (pg : List Pl) (r : Rg3) (head : Int) : (∀ d ∈ (wkAll fr pg r head).1, d.ok) ∧ (wkAll fr pg r head).1.length ≤ 9 := by
  rcases wkAll_or fr pg r head with ⟨c, h, _⟩ | ⟨m, hm, h, _⟩
  · rw [h]; exact ⟨fun d hd => by simp at hd, by simp⟩
  · rw [h]; exact ⟨wkSt_ok hF _ _ _ _, by rw [wkSt_len]; omega⟩
end Go.Proofs.Ytechkfopkpkigaa
