/-
  Layer 22 (chain): following, walking.
-/
import Derived.Test.YtechkfopkpkigaaChain
namespace Go.Proofs.Ytechkfopkpkigaa
open Go.RowKit
set_option linter.unusedSimpArgs false
set_option linter.unusedVariables false
set_option maxRecDepth 20000

abbrev WkS := Int × Bool × List Dsc
def lkS (fr : List Frm) (pg : List Pl) (r : Rg3) (n : Nat) (x : WkS) : Dsc × Int := lk fr pg r x.1 n x.2.1
/-- Where a walk stands behind n steps. -/
def wkSt (fr : List Frm) (pg : List Pl) (r : Rg3) (head : Int) : Nat → WkS
  | 0 => (head, false, [])
  | n + 1 => let d := (lkS fr pg r n (wkSt fr pg r head n)).1; ((d.next : Int), wrB d, (wkSt fr pg r head n).2.2 ++ [d])
abbrev lkN (fr : List Frm) (pg : List Pl) (r : Rg3) (head : Int) (n : Nat) : Dsc × Int := lkS fr pg r n (wkSt fr pg r head n)
def alive (fr : List Frm) (pg : List Pl) (r : Rg3) (head : Int) (n : Nat) : Prop := ∀ m, m < n → (lkN fr pg r head m).2 = 0 ∧ goB (lkN fr pg r head m).1 = true
theorem alive.succ {fr : List Frm} {pg : List Pl} {r : Rg3} {head : Int} {n : Nat} (h : alive fr pg r head n) (h1 : (lkN fr pg r head n).2 = 0) (h2 : goB (lkN fr pg r head n).1 = true) : alive fr pg r head (n + 1) := fun m hm => by
  rcases Nat.lt_or_ge m n with q | q
  · exact h m q
  · rw [show m = n by omega]; exact ⟨h1, h2⟩
theorem alive.le {fr : List Frm} {pg : List Pl} {r : Rg3} {head : Int} {n : Nat} (h : alive fr pg r head n) (h8 : 0 ≤ r.n ∧ r.n ≤ 8) : n ≤ 8 := by
  rcases Nat.eq_zero_or_pos n with q | q
  · omega
  · have := lk_n (h (n - 1) (by omega)).1; omega
theorem wkSt_len (fr : List Frm) (pg : List Pl) (r : Rg3) (head : Int) : ∀ n, (wkSt fr pg r head n).2.2.length = n
  | 0 => rfl
  | n + 1 => by rw [wkSt]; simp [wkSt_len fr pg r head n]
/-- What a walk comes to. -/
def wkGo (fr : List Frm) (pg : List Pl) (r : Rg3) (head : Int) : Nat → Nat → List Dsc × Int
  | 0, _ => ([], 2)
  | f + 1, n => if (lkN fr pg r head n).2 ≠ 0 then ([], (lkN fr pg r head n).2) else if goB (lkN fr pg r head n).1 then wkGo fr pg r head f (n + 1) else ((wkSt fr pg r head (n + 1)).2.2, 0)
def wkAll (fr : List Frm) (pg : List Pl) (r : Rg3) (head : Int) : List Dsc × Int := if rgtB r then wkGo fr pg r head 9 0 else ([], 5)
theorem wkGo_alive {fr : List Frm} {pg : List Pl} {r : Rg3} {head : Int} : ∀ n k, alive fr pg r head n → n ≤ k → wkGo fr pg r head k 0 = wkGo fr pg r head (k - n) n
  | 0, k, _, _ => rfl
  | n + 1, k, h, hk => by
    rw [wkGo_alive n k (fun m hm => h m (by omega)) (by omega)]
    obtain ⟨h1, h2⟩ := h n (by omega)
    obtain ⟨j, hj⟩ : ∃ j, k - n = j + 1 := ⟨k - n - 1, by omega⟩
    rw [hj, wkGo, if_neg (by rw [h1]; decide), if_pos h2, show k - (n + 1) = j by omega]
theorem wkGo_stop {fr : List Frm} {pg : List Pl} {r : Rg3} {head : Int} {n : Nat} (h : alive fr pg r head n) (h8 : n ≤ 8) (hc : (lkN fr pg r head n).2 ≠ 0) : wkGo fr pg r head 9 0 = ([], (lkN fr pg r head n).2) := by
  rw [wkGo_alive n 9 h (by omega)]
  obtain ⟨j, hj⟩ : ∃ j, 9 - n = j + 1 := ⟨9 - n - 1, by omega⟩
  rw [hj, wkGo, if_pos hc]
theorem wkGo_end {fr : List Frm} {pg : List Pl} {r : Rg3} {head : Int} {n : Nat} (h : alive fr pg r head n) (h8 : n ≤ 8) (hc : (lkN fr pg r head n).2 = 0) (hg : goB (lkN fr pg r head n).1 = false) : wkGo fr pg r head 9 0 = ((wkSt fr pg r head (n + 1)).2.2, 0) := by
  rw [wkGo_alive n 9 h (by omega)]
  obtain ⟨j, hj⟩ : ∃ j, 9 - n = j + 1 := ⟨9 - n - 1, by omega⟩
  rw [hj, wkGo, if_neg (by rw [hc]; decide), if_neg (by rw [hg]; decide)]

/-- A list of descriptors in a variable. -/
def osH (b : Nat) (l : List Dsc) : HP := chk (fun C => ∃ a c, C = [pt b (cob [.slice a l.length c] 100), osl 124 4 (.slice a l.length c) (l.flatMap dsV)])
section
variable {W0 : World} {N : FSz} {K : Act → World → Prop} {e : Env} {A R R1 R2 : List HP} {b n c : Nat} {l : List Dsc} {a : Option Addr} {ys : List Value}
theorem run_osH [hk : Tk osH b A l R] (h : ∀ a c, Run W0 N K e (pt b (cob [.slice a l.length c] 100) :: osl 124 4 (.slice a l.length c) (l.flatMap dsV) :: R)) : Run W0 N K e A :=
  run_tk (r := osH) (b := b) (run_chk fun C hC => by obtain ⟨a, c, rfl⟩ := hC; exact h a c)
theorem run_inOsH (l : List Dsc) [h1 : Tk pt b A (cob [.slice a n c] 100) R1] [h2 : Tk (osl 124 4) (.slice a n c) R1 ys R] (hn : n = l.length) (hy : ys = l.flatMap dsV) (k : Run W0 N K e (osH b l :: R)) : Run W0 N K e A := by
  subst hn; subst hy
  exact run_ent ((Ent.ofPerm (h1.perm.trans (h2.perm.cons _))).trans (ent_chk (R := R) (C := [_, _]) ⟨a, c, rfl⟩)) k
theorem run_newOsH [h1 : Tk pt b A (cob [.slice none 0 0] 100) R] (k : Run W0 N K e (osH b [] :: R)) : Run W0 N K e A :=
  run_ent ((Ent.ofPerm h1.perm).trans ((Ent.cons (ent_osl_nil (E := 124) (sz := 4) (B := R))).trans (ent_chk (R := R) (C := [pt b (cob [.slice none 0 0] 100), osl 124 4 (.slice none 0 0) []]) ⟨none, 0, rfl⟩))) k
end
end Go.Proofs.Ytechkfopkpkigaa
