/-
  Layer 17 (walk): where the user's access lies, and the kernel's. Plain.
-/
import Derived.Test.YtalpgipkkdlpgaaWalkC
namespace Go.Proofs.Ytalpgipkkdlpgaa
set_option linter.unusedSimpArgs false
set_option linter.unusedVariables false

theorem fndX_zero {n : Nat} {pg : List Pl} {pa : Nat} {w kind : Int} (h : fndE n pg pa w kind ≠ 0) : fndP n pg pa w kind = 0 ∧ fndF n pg pa w kind = 0 ∧ fndO n pg pa w kind = 0 := by
  unfold fndP fndF fndO; rw [if_neg h, if_neg h, if_neg h]; exact ⟨rfl, rfl, rfl⟩
theorem fnw_zero {fr : List Frm} {pg : List Pl} {root : Int} {user : Bool} {va : Nat} {kind : Int} (h : fnwE fr pg true root user va kind ≠ 0) :
    fnwX fndP fr pg true root user va kind = 0 ∧ fnwX fndF fr pg true root user va kind = 0 ∧ fnwX fndO fr pg true root user va kind = 0 := by
  simp only [fnwE, fnwX, if_true] at h ⊢
  split
  · exact ⟨rfl, rfl, rfl⟩
  · rename_i h1
    rw [if_neg h1] at h
    split
    · rename_i h2
      rw [if_pos h2] at h
      exact fndX_zero h
    · exact ⟨rfl, rfl, rfl⟩
/-- What is found lies in a page that is there. -/
theorem fnw_hit {fr : List Frm} {pg : List Pl} {root : Int} {user : Bool} {va : Nat} {kind : Int} (h : fnwE fr pg true root user va kind = 0) :
    (wkR fr pg root va).fault = 0 ∧ alwT (wkR fr pg root va) kind user = true ∧ fndE fr.length pg (wkPa (wkR fr pg root va) va) 1 kind = 0 ∧ ∀ g, fnwX g fr pg true root user va kind = g fr.length pg (wkPa (wkR fr pg root va) va) 1 kind := by
  simp only [fnwE, fnwX, if_true] at h ⊢
  by_cases h1 : (wkR fr pg root va).fault = 0
  · rw [if_neg (fun q => q h1)] at h
    by_cases h2 : alwT (wkR fr pg root va) kind user = true
    · rw [if_pos h2] at h
      exact ⟨h1, h2, h, fun g => by rw [if_neg (fun q => q h1), if_pos h2]⟩
    · rw [if_neg h2] at h; omega
  · rw [if_pos h1] at h; exact absurd h h1
theorem fnw_user {fr : List Frm} {pg : List Pl} {root : Int} {va : Nat} {kind : Int} (h : fnwE fr pg true root true va kind = 0) :
    fnwE fr pg true root false va kind = 0 ∧ ∀ g, fnwX g fr pg true root true va kind = fnwX g fr pg true root false va kind := by
  obtain ⟨h1, h2, h3, h4⟩ := fnw_hit h
  have h5 : alwT (wkR fr pg root va) kind false = true := by
    obtain ⟨⟨a, b, _⟩, c⟩ := alwT_iff.1 h2
    exact alwT_iff.2 ⟨⟨a, b, .inl (by decide)⟩, c⟩
  constructor
  · simp only [fnwE, if_true]
    rw [if_neg (fun q => q h1), if_pos h5]; exact h3
  · intro g
    rw [h4 g]
    simp only [fnwX, if_true]
    rw [if_neg (fun q => q h1), if_pos h5]
theorem fnw_there {fr : List Frm} {pg : List Pl} {root : Int} {user : Bool} {va : Nat} {kind : Int} (h : fnwE fr pg true root user va kind = 0) :
    thereB pg (fnwX fndP fr pg true root user va kind) = true ∧ (gGot pg (fnwX fndP fr pg true root user va kind)).1 = fnwX fndF fr pg true root user va kind ∧ fnwX fndO fr pg true root user va kind = ((va % 64 : Nat) : Int) ∧ (kind ≠ 0 ∨ fnwX fndP fr pg true root user va kind < 8) := by
  obtain ⟨h1, h2, h3, h4⟩ := fnw_hit h
  rw [h4 fndP, h4 fndF, h4 fndO]
  have e1 : fndP fr.length pg (wkPa (wkR fr pg root va) va) 1 kind = ((wkPa (wkR fr pg root va) va / 64 : Nat) : Int) := by rw [fndP, if_pos h3]
  have e2 : fndF fr.length pg (wkPa (wkR fr pg root va) va) 1 kind = (gGot pg ((wkPa (wkR fr pg root va) va / 64 : Nat) : Int)).1 := by rw [fndF, if_pos h3]
  have e3 : fndO fr.length pg (wkPa (wkR fr pg root va) va) 1 kind = ((wkPa (wkR fr pg root va) va % 64 : Nat) : Int) := by rw [fndO, if_pos h3]
  have e4 : wkPa (wkR fr pg root va) va % 64 = va % 64 := by unfold wkPa; omega
  rw [e1, e2, e3, e4]
  have ha : alwE pg ((wkPa (wkR fr pg root va) va / 64 : Nat) : Int) kind = 0 := by
    unfold fndE at h3
    split at h3
    · split at h3
      · split at h3
        · assumption
        · exact h3
      · omega
    · omega
  generalize ((wkPa (wkR fr pg root va) va / 64 : Nat) : Int) = n at ha
  unfold alwE at ha
  split at ha
  · rename_i ht
    split at ha
    · rename_i hm
      refine ⟨ht, rfl, rfl, ?_⟩
      by_cases hk : kind = 0
      · refine .inr ?_
        subst hk
        simp [mayB] at hm
        omega
      · exact .inl hk
    · omega
  · omega
end Go.Proofs.Ytalpgipkkdlpgaa
