/-
  Slices within arguments. Nothing of one program stands here.
-/
import Derived.Test.YteolepiendmhlaaGreatDoorLaw
import Derived.Test.YteolepiendmhlaaGreatDoorKit
namespace Go.Proofs.YteolepiendmhlaaGreatDoor
open Go.ChangeShapes Go.WideShapes Go.ChangeAt Go.RowKit
set_option linter.unusedSimpArgs false
set_option linter.unusedVariables false

variable {P : Program} {w W : World} {t : TypeId} {v : Value}
theorem inT_sliceF {α : Type} {f : α → List Value} {Q : α → Prop} {e : TypeId} {fuel : Nat} {cs : List Value} (sz : Nat) (hu : P.underlying t = some (.slice e)) (hsz : P.cellsOf e = sz) (hc : 0 < sz) (hdec : ∀ fuel r, InT P W fuel e r → ∃ x, r = f x ∧ Q x) (h : InT P W fuel t cs) :
    ∃ a c xs, cs = [.slice a (List.length (α := α) xs) c] ∧ xs.length ≤ c ∧ c ≤ maxLen ∧ SlB W a sz f xs ∧ ∀ x ∈ xs, Q x := by
  subst hsz
  rcases inT_slice hu h with rfl | ⟨a', n', c', rfl, hl, hm, f', hr⟩
  · exact ⟨none, 0, [], rfl, by simp, by omega, fun i x hx => by simp at hx, fun x hx => by simp at hx⟩
  · obtain ⟨rows, hlen, hq⟩ := choose_list n' hr
    obtain ⟨xs, rfl, hQ⟩ := rows_map (rows := rows) (f := f) (Q := Q) fun r hr => by
      obtain ⟨i, hi, rfl⟩ := List.getElem_of_mem hr
      exact hdec _ _ (hq i rows[i] (by simp)).2
    rw [List.length_map] at hlen
    subst hlen
    refine ⟨some a', c', xs, rfl, hl, hm, fun i x hx => ?_, hQ⟩
    obtain ⟨h4, _⟩ := hq i (f x) (by simp [hx])
    obtain ⟨hs, hlr, hcell⟩ := cells?_spec hc h4
    have hpos : 0 < xs.length := by
      rcases Nat.eq_zero_or_pos xs.length with q | q
      · have := List.eq_nil_of_length_eq_zero q; subst this; simp at hx
      · exact q
    obtain ⟨h5, _⟩ := hq 0 (f xs[0]) (by simp [hpos])
    obtain ⟨hs0, _⟩ := cells?_spec hc h5
    obtain ⟨b, o, s⟩ := a'
    simp only [Nat.zero_mul, Addr.add, if_true] at hs0
    subst hs0
    refine ⟨b, o, rfl, fun A j v hv => ?_⟩
    have := hcell j v hv
    rw [add_none] at this
    exact cell_base this
theorem list6 {l : List Value} (h : l.length = 6) : ∃ a b c d e f, l = [a, b, c, d, e, f] := by
  match l, h with
  | [a, b, c, d, e, f], _ => exact ⟨a, b, c, d, e, f, rfl⟩
theorem sla_base {α : Type} {W : World} {A : List HP} {a : Option Addr} {sz : Nat} {f : α → List Value} {xs : List α} (h : SlB W a sz f xs) : SlA (OwnP W A) a sz f xs := fun i x hi => by
  obtain ⟨b, off, rfl, hc⟩ := h i x hi
  exact ⟨b, off, rfl, hc A⟩
end Go.Proofs.YteolepiendmhlaaGreatDoor
