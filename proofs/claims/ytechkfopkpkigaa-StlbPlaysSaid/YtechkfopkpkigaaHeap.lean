/-
  A heap in a list: what one swap does. Plain Lean, no program.
-/
import Derived.Test.YtechkfopkpkigaaMore
namespace Go.Proofs.Ytechkfopkpkigaa
set_option linter.unusedSimpArgs false
set_option linter.unusedVariables false

/-- A remembered translation. -/
structure It where
  kr : Int
  kp : Int
  ep : Int
  ef : Int
  er : Int
  u : Int
deriving DecidableEq
instance : Inhabited It := ⟨⟨0, 0, 0, 0, 0, 0⟩⟩
def It.key (x : It) : Int × Int := (x.kr, x.kp)
def It.ent (x : It) : Int × Int × Int := (x.ep, x.ef, x.er)
def itemV (x : It) : List Value := [.int .i64 x.kr, .int .i64 x.kp, .int .i64 x.ep, .int .i64 x.ef, .int .i64 x.er, .int .i64 x.u]
theorem itemV_len (x : It) : (itemV x).length = 6 := rfl

def us (l : List It) (i : Nat) : Int := (l.getD i default).u
theorem us_eq {l : List It} {i : Nat} (h : i < l.length) : us l i = l[i].u := by simp [us, List.getD, h]
def swapL (l : List It) (i j : Nat) : List It := (l.set i (l.getD j default)).set j (l.getD i default)
theorem swapL_length (l : List It) (i j : Nat) : (swapL l i j).length = l.length := by simp [swapL]
theorem getD_swapL {l : List It} {i j : Nat} (hi : i < l.length) (hj : j < l.length) (x : Nat) : (swapL l i j).getD x default = if x = i then l.getD j default else if x = j then l.getD i default else l.getD x default := by
  simp only [swapL, List.getD_eq_getElem?_getD, List.getElem?_set, List.length_set]
  by_cases h1 : x = j
  · subst h1
    by_cases h2 : x = i
    · subst h2; simp [hj]
    · simp [hj, h2]
  · have h1' : ¬ j = x := fun h => h1 h.symm
    by_cases h2 : x = i
    · subst h2; simp [h1', hi]
    · have h2' : ¬ i = x := fun h => h2 h.symm
      simp [h1, h1', h2, h2']
theorem us_swapL {l : List It} {i j : Nat} (hi : i < l.length) (hj : j < l.length) (x : Nat) : us (swapL l i j) x = if x = i then us l j else if x = j then us l i else us l x := by
  unfold us; rw [getD_swapL hi hj]; split
  · rfl
  · split <;> rfl
theorem swap_perm {α : Type} : ∀ (l : List α) (i j : Nat) (hi : i < l.length) (hj : j < l.length), ((l.set i l[j]).set j l[i]).Perm l := by
  intro l i j hi hj
  have := List.set_set_perm (as := l) hi hj
  exact this
theorem swapL_perm {l : List It} {i j : Nat} (hi : i < l.length) (hj : j < l.length) : (swapL l i j).Perm l := by
  have := swap_perm l i j hi hj
  simpa [swapL, List.getD, hi, hj] using this

def Heap (l : List It) (n : Nat) : Prop := ∀ c, c < n → 0 < c → us l ((c - 1) / 2) ≤ us l c
/-- A heap but for one place, which may be greater than those below it. -/
def Hole (l : List It) (i n : Nat) : Prop := ∀ c, c < n → 0 < c → (c ≠ i → (c - 1) / 2 ≠ i → us l ((c - 1) / 2) ≤ us l c) ∧ ((c - 1) / 2 = i → 0 < i → us l ((i - 1) / 2) ≤ us l c)
/-- A heap but for one place, which may be less than the one above it. -/
def Up (l : List It) (j n : Nat) : Prop := ∀ c, c < n → 0 < c → (c ≠ j → us l ((c - 1) / 2) ≤ us l c) ∧ ((c - 1) / 2 = j → 0 < j → us l ((j - 1) / 2) ≤ us l c)

theorem hole_swap {l : List It} {i j n : Nat} (h : Hole l i n) (hn : n ≤ l.length) (hj : j < n) (hc : (j - 1) / 2 = i) (h0 : 0 < j) (hlt : us l j < us l i)
    (hmin : ∀ c, c < n → 0 < c → (c - 1) / 2 = i → us l j ≤ us l c) : Hole (swapL l i j) j n ∧ us (swapL l i j) ((j - 1) / 2) ≤ us (swapL l i j) j := by
  have hij : i < j := by omega
  have sw := us_swapL (l := l) (i := i) (j := j) (by omega) (by omega)
  refine ⟨fun c hcn hc0 => ⟨fun h1 h2 => ?_, fun h1 h2 => ?_⟩, ?_⟩
  · rw [sw, sw]
    by_cases e1 : c = i
    · subst e1
      have := (h j hj h0).2 hc (by omega)
      rw [if_neg (by omega), if_neg (by omega), if_pos rfl]; exact this
    · by_cases e2 : (c - 1) / 2 = i
      · rw [if_pos e2, if_neg e1, if_neg h1]; exact hmin c hcn hc0 e2
      · rw [if_neg e2, if_neg h2, if_neg e1, if_neg h1]; exact (h c hcn hc0).1 e1 e2
  · rw [hc, sw, sw, if_pos rfl, if_neg (by omega), if_neg (by omega)]
    rw [← h1]; exact (h c hcn hc0).1 (by omega) (by omega)
  · rw [hc, sw, sw, if_pos rfl, if_neg (by omega), if_pos rfl]; omega

theorem hole_heap {l : List It} {i n : Nat} (h : Hole l i n) (hmin : ∀ c, c < n → 0 < c → (c - 1) / 2 = i → us l i ≤ us l c) (hp : 0 < i → us l ((i - 1) / 2) ≤ us l i) : Heap l n := fun c hc h0 => by
  by_cases e1 : (c - 1) / 2 = i
  · rw [e1]; exact hmin c hc h0 e1
  · by_cases e2 : c = i
    · subst e2; exact hp h0
    · exact (h c hc h0).1 e2 e1
theorem hole_up {l : List It} {i n : Nat} (h : Hole l i n) (hmin : ∀ c, c < n → 0 < c → (c - 1) / 2 = i → us l i ≤ us l c) : Up l i n := fun c hc h0 => ⟨fun e => by
  by_cases e1 : (c - 1) / 2 = i
  · rw [e1]; exact hmin c hc h0 e1
  · exact (h c hc h0).1 e e1, (h c hc h0).2⟩
theorem up_swap {l : List It} {j n : Nat} (h : Up l j n) (hn : n ≤ l.length) (hj : j < n) (h0 : 0 < j) (hlt : us l j < us l ((j - 1) / 2)) : Up (swapL l ((j - 1) / 2) j) ((j - 1) / 2) n := by
  have sw := us_swapL (l := l) (i := (j - 1) / 2) (j := j) (by omega) (by omega)
  intro c hc hc0
  refine ⟨fun h1 => ?_, fun h1 h2 => ?_⟩
  · rw [sw, sw]
    by_cases e1 : c = j
    · subst e1; rw [if_pos rfl, if_neg (by omega), if_pos rfl]; omega
    · by_cases e2 : (c - 1) / 2 = (j - 1) / 2
      · rw [if_pos e2, if_neg (by omega), if_neg e1]
        have := (h c hc hc0).1 e1; rw [e2] at this; omega
      · by_cases e3 : (c - 1) / 2 = j
        · rw [if_neg e2, if_pos e3, if_neg h1, if_neg e1]; exact (h c hc hc0).2 e3 h0
        · rw [if_neg e2, if_neg e3, if_neg h1, if_neg e1]; exact (h c hc hc0).1 e1
  · rw [sw, sw, if_neg (by omega), if_neg (by omega)]
    have hp := (h ((j - 1) / 2) (by omega) h2).1 (by omega)
    by_cases e1 : c = j
    · subst e1; rw [if_neg (by omega), if_pos rfl]; exact hp
    · rw [if_neg (by omega), if_neg e1]
      have := (h c hc hc0).1 e1; rw [h1] at this; omega
theorem up_heap {l : List It} {j n : Nat} (h : Up l j n) (hp : 0 < j → us l ((j - 1) / 2) ≤ us l j) : Heap l n := fun c hc h0 => by
  by_cases e : c = j
  · subst e; exact hp h0
  · exact (h c hc h0).1 e
theorem heap_min {l : List It} {n : Nat} (h : Heap l n) : ∀ c, c < n → us l 0 ≤ us l c := by
  intro c
  induction c using Nat.strongRecOn with
  | _ c ih =>
    intro hc
    by_cases h0 : c = 0
    · subst h0; omega
    · have := h c hc (by omega)
      have := ih ((c - 1) / 2) (by omega) (by omega)
      omega
theorem heap_hole {l : List It} {n : Nat} (h : Heap l n) : Hole l 0 n := fun c hc h0 => ⟨fun _ _ => h c hc h0, fun _ h => absurd h (by omega)⟩

theorem set_hole {l : List It} {i : Nat} {x : It} {n : Nat} (h : Heap l n) (hi : i < l.length) : Hole (l.set i x) i n := fun c hc h0 => by
  have e : ∀ y, y ≠ i → us (l.set i x) y = us l y := fun y hy => by
    unfold us; simp only [List.getD_eq_getElem?_getD]; rw [List.getElem?_set_ne (by omega)]
  refine ⟨fun h1 h2 => ?_, fun h1 h2 => ?_⟩
  · rw [e _ h1, e _ h2]; exact h c hc h0
  · rw [e _ (by omega), e _ (by omega)]
    have k1 := h c hc h0
    have k2 := h i (by omega) h2
    rw [h1] at k1; omega
theorem us_congr {l l' : List It} {n : Nat} (h : ∀ i, i < n → l.getD i default = l'.getD i default) {i : Nat} (hi : i < n) : us l i = us l' i := by unfold us; rw [h i hi]
theorem heap_congr {l l' : List It} {n : Nat} (h : ∀ i, i < n → l.getD i default = l'.getD i default) (k : Heap l n) : Heap l' n := fun c hc h0 => by
  rw [← us_congr h hc, ← us_congr h (i := (c - 1) / 2) (by omega)]; exact k c hc h0
theorem heap_le {l : List It} {n m : Nat} (h : Heap l n) (k : m ≤ n) : Heap l m := fun c hc h0 => h c (by omega) h0
/-- What 'down' leaves. -/
structure Down (its l : List It) (i0 n : Nat) (moved : Bool) : Prop where
  perm : l.Perm its
  tail : ∀ x, n ≤ x → l.getD x default = its.getD x default
  no : moved = false → l = its ∧ ∀ c, c < n → 0 < c → (c - 1) / 2 = i0 → us its i0 ≤ us its c
  yes : moved = true → Heap l n
theorem down_done {l its : List It} {i i0 n : Nat} (hp : l.Perm its) (hi : i0 ≤ i) (hH : Hole l i n) (ht : ∀ x, n ≤ x → l.getD x default = its.getD x default) (h0 : i = i0 → l = its)
    (hg : i0 < i → us l ((i - 1) / 2) ≤ us l i) (hmin : ∀ c, c < n → 0 < c → (c - 1) / 2 = i → us l i ≤ us l c) : Down its l i0 n (decide (i0 < i)) :=
  ⟨hp, ht, fun h => by
    have : i = i0 := by simp at h; omega
    subst this
    obtain rfl := h0 rfl
    exact ⟨rfl, hmin⟩, fun h => by
    have : i0 < i := by simpa using h
    exact hole_heap hH hmin fun _ => hg this⟩
end Go.Proofs.Ytechkfopkpkigaa
