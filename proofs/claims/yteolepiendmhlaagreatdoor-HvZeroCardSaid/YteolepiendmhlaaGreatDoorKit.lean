/-
  More chunks at once, slices as they read, groups. Nothing of one program stands here.
-/
import Derived.Test.YteolepiendmhlaaGreatDoorPlus
namespace Go.Proofs.YteolepiendmhlaaGreatDoor
open Go.RowKit
set_option linter.unusedSimpArgs false
set_option linter.unusedVariables false

section
variable {rd : Option Nat} {P : Program} {S : World → Prop} {W0 : World} {N : FSz} {Q : Exit → Act → World → Prop} {e : Env} {A B R R1 R2 R3 R4 R5 R6 : List HP} {ops : Array Oper} {rest : List Oper}
variable {op : Op} {ty t t' : TypeId} {pos : String} {af : Array Edge} {v u : Value} {d b off : Nat} {x y z : Operand} {l l' vs : List Value}
variable {K1 K2 K3 K4 K5 K6 X1 X2 X3 X4 X5 X6 : Type} {r1 : K1 → X1 → HP} {b1 : K1} {x1 : X1} {r2 : K2 → X2 → HP} {b2 : K2} {x2 : X2} {r3 : K3 → X3 → HP} {b3 : K3} {x3 : X3} {r4 : K4 → X4 → HP} {b4 : K4} {x4 : X4} {r5 : K5 → X5 → HP} {b5 : K5} {x5 : X5} {r6 : K6 → X6 → HP} {b6 : K6} {x6 : X6}

theorem perm3 [h1 : Tk r1 b1 A x1 R1] [h2 : Tk r2 b2 R1 x2 R2] [h3 : Tk r3 b3 R2 x3 R] : A.Perm (r1 b1 x1 :: r2 b2 x2 :: r3 b3 x3 :: R) := h1.perm.trans (perm2.cons _)
theorem perm4 [h1 : Tk r1 b1 A x1 R1] [h2 : Tk r2 b2 R1 x2 R2] [h3 : Tk r3 b3 R2 x3 R3] [h4 : Tk r4 b4 R3 x4 R] : A.Perm (r1 b1 x1 :: r2 b2 x2 :: r3 b3 x3 :: r4 b4 x4 :: R) := h1.perm.trans (perm3.cons _)
theorem perm5 [h1 : Tk r1 b1 A x1 R1] [h2 : Tk r2 b2 R1 x2 R2] [h3 : Tk r3 b3 R2 x3 R3] [h4 : Tk r4 b4 R3 x4 R4] [h5 : Tk r5 b5 R4 x5 R] : A.Perm (r1 b1 x1 :: r2 b2 x2 :: r3 b3 x3 :: r4 b4 x4 :: r5 b5 x5 :: R) := h1.perm.trans (perm4.cons _)
theorem perm6 [h1 : Tk r1 b1 A x1 R1] [h2 : Tk r2 b2 R1 x2 R2] [h3 : Tk r3 b3 R2 x3 R3] [h4 : Tk r4 b4 R3 x4 R4] [h5 : Tk r5 b5 R4 x5 R5] [h6 : Tk r6 b6 R5 x6 R] : A.Perm (r1 b1 x1 :: r2 b2 x2 :: r3 b3 x3 :: r4 b4 x4 :: r5 b5 x5 :: r6 b6 x6 :: R) := h1.perm.trans (perm5.cons _)

section
variable {f : FuncId} {xs : Array Operand} {ats : Array TypeId} {Post : Value → List HP → Prop}
theorem d_call4 (hc : ∀ args w, (callFunc f args).run P w = .ok (.enter f args) w) (hx : evs e xs.toList = some vs)
    (hs : Spec P W0 f vs (r1 b1 x1 :: r2 b2 x2 :: r3 b3 x3 :: r4 b4 x4 :: R) Post) [h1 : Tk r1 b1 A x1 R1] [h2 : Tk r2 b2 R1 x2 R2] [h3 : Tk r3 b3 R2 x3 R3] [h4 : Tk r4 b4 R3 x4 R] : Does P W0 N e A (.call { callee := .value (.func f), args := xs, argTypes := ats }) Post :=
  does_perm perm4 (d_call hc hx hs)
theorem d_call5 (hc : ∀ args w, (callFunc f args).run P w = .ok (.enter f args) w) (hx : evs e xs.toList = some vs)
    (hs : Spec P W0 f vs (r1 b1 x1 :: r2 b2 x2 :: r3 b3 x3 :: r4 b4 x4 :: r5 b5 x5 :: R) Post) [h1 : Tk r1 b1 A x1 R1] [h2 : Tk r2 b2 R1 x2 R2] [h3 : Tk r3 b3 R2 x3 R3] [h4 : Tk r4 b4 R3 x4 R4] [h5 : Tk r5 b5 R4 x5 R] : Does P W0 N e A (.call { callee := .value (.func f), args := xs, argTypes := ats }) Post :=
  does_perm perm5 (d_call hc hx hs)
theorem d_call6 (hc : ∀ args w, (callFunc f args).run P w = .ok (.enter f args) w) (hx : evs e xs.toList = some vs)
    (hs : Spec P W0 f vs (r1 b1 x1 :: r2 b2 x2 :: r3 b3 x3 :: r4 b4 x4 :: r5 b5 x5 :: r6 b6 x6 :: R) Post) [h1 : Tk r1 b1 A x1 R1] [h2 : Tk r2 b2 R1 x2 R2] [h3 : Tk r3 b3 R2 x3 R3] [h4 : Tk r4 b4 R3 x4 R4] [h5 : Tk r5 b5 R4 x5 R5] [h6 : Tk r6 b6 R5 x6 R] : Does P W0 N e A (.call { callee := .value (.func f), args := xs, argTypes := ats }) Post :=
  does_perm perm6 (d_call hc hx hs)
variable {fx : Operand} {us cs : List Value}
theorem d_callv3 (hf : ev e fx = some (.func (.func f) us.toArray cs.toArray)) (hc : ∀ args w, (callFunc f args).run P w = .ok (.enter f args) w) (hx : evs e xs.toList = some vs)
    (hs : Spec P W0 f (us ++ vs ++ cs) (r1 b1 x1 :: r2 b2 x2 :: r3 b3 x3 :: R) Post) [h1 : Tk r1 b1 A x1 R1] [h2 : Tk r2 b2 R1 x2 R2] [h3 : Tk r3 b3 R2 x3 R] : Does P W0 N e A (.call { callee := .value fx, args := xs, argTypes := ats }) Post :=
  does_perm perm3 (d_callv hf hc hx hs)
theorem d_callv4 (hf : ev e fx = some (.func (.func f) us.toArray cs.toArray)) (hc : ∀ args w, (callFunc f args).run P w = .ok (.enter f args) w) (hx : evs e xs.toList = some vs)
    (hs : Spec P W0 f (us ++ vs ++ cs) (r1 b1 x1 :: r2 b2 x2 :: r3 b3 x3 :: r4 b4 x4 :: R) Post) [h1 : Tk r1 b1 A x1 R1] [h2 : Tk r2 b2 R1 x2 R2] [h3 : Tk r3 b3 R2 x3 R3] [h4 : Tk r4 b4 R3 x4 R] : Does P W0 N e A (.call { callee := .value fx, args := xs, argTypes := ats }) Post :=
  does_perm perm4 (d_callv hf hc hx hs)
end

/-- A chunk as it is. -/
def kH (_ : Nat) (x : HP) : HP := x
instance (priority := low) ent_app {R R' : List HP} : Ent (R ++ R') R := ⟨fun l hl => by
  obtain ⟨l1, l2, rfl, h1, h2⟩ := Sat.append.1 hl
  exact ⟨l1, l2, h1, List.Perm.refl _⟩⟩
theorem spec_grp {C : List HP} {f : FuncId} {args : List Value} {Post : Value → List HP → Prop} (h : Spec P W0 f args (C ++ R) Post) : Spec P W0 f args (grp C :: R) Post := fun w hO => h w (hO.ent ent_open)
theorem spec_kgrp {C : List HP} {f : FuncId} {args : List Value} {Post : Value → List HP → Prop} (h : Spec P W0 f args (C ++ R) Post) : Spec P W0 f args (kH 0 (grp C) :: R) Post := fun w hO => h w (hO.ent ent_open)
theorem ent_kgrp {C : List HP} [h : Ent A (C ++ R)] : Ent A (kH 0 (grp C) :: R) := h.trans ent_shut
theorem run_grp {C : List HP} {K : Act → World → Prop} (h : Run W0 N K e (C ++ R)) : Run W0 N K e (grp C :: R) := fun a w hF hO => h a w hF (hO.ent ent_open)
theorem rounds_perm {L : Nat} {Post : Value → List HP → Prop} (hp : A.Perm B) (h : Rounds P W0 L vs B Post) : Rounds P W0 L vs A Post := fun w hO => h w (hO.perm hp)
theorem spec_ent {f : FuncId} {args : List Value} {Post : Value → List HP → Prop} (he : Ent A B) (h : Spec P W0 f args B Post) : Spec P W0 f args A Post := fun w hO => h w (hO.ent he)

instance ent_kgrp_nil [h : Ent A R] : Ent A (kH 0 (grp []) :: R) := ent_kgrp (h := h)
instance ent_kgrp_cons {K X : Type} {r : K → X → HP} {b : K} {x : X} {C : List HP} [h : Tk r b A x R1] [k : Ent R1 (kH 0 (grp C) :: R)] : Ent A (kH 0 (grp (r b x :: C)) :: R) :=
  (Ent.ofPerm h.perm).trans ((Ent.cons (k.trans ent_open)).trans (ent_kgrp (C := r b x :: C) (h := ent_refl)))
instance ent_grp_nil [h : Ent A R] : Ent A (grp [] :: R) := h.trans (ent_shut (A := []))
instance ent_grp_cons {K X : Type} {r : K → X → HP} {b : K} {x : X} {C : List HP} [h : Tk r b A x R1] [k : Ent R1 (grp C :: R)] : Ent A (grp (r b x :: C) :: R) :=
  (Ent.ofPerm h.perm).trans ((Ent.cons (k.trans ent_open)).trans (ent_shut (A := r b x :: C)))
/-- A block's contents in another form. -/
theorem run_pt {o o' : Obj} {K : Act → World → Prop} [h : Tk pt b A o R] (he : o = o') (k : Run W0 N K e (pt b o' :: R)) : Run W0 N K e A := by
  subst he; exact run_tk (r := pt) (b := b) k
theorem ent_eq {o o' : Obj} (he : o = o') [h : Tk pt b A o R] [k : Ent R B] : Ent A (pt b o' :: B) := by
  subst he; exact ent_take
/-- The first chunk under a name. -/
theorem run_name {K : Act → World → Prop} {c : HP} (k : ∀ H, H = c → Run W0 N K e (kH 1 H :: A)) : Run W0 N K e (c :: A) := k c rfl
theorem run_unname {K : Act → World → Prop} {c : HP} [h : Tk kH 1 A c R] (k : Run W0 N K e (c :: R)) : Run W0 N K e A := run_tk (r := kH) (b := 1) k

/-- A whole block as a slice. -/
theorem ent_osl0 {E sz g n : Nat} {xs : List Value} [h : Tk pt g A (cob xs E) R] (h2 : n ≤ maxLen) (h3 : xs.length = n * sz) [k : Ent R B] : Ent A (osl E sz (.slice (some ⟨g, 0, none⟩) n n) xs :: B) :=
  ent_osl (sp := []) (h := ⟨by rw [List.append_nil]; exact h.perm⟩) (Nat.le_refl _) h2 h3 (by rw [List.append_nil]; exact h3)
theorem run_kgrp {C : List HP} {K : Act → World → Prop} [h : Tk kH 0 A (grp C) R] (k : Run W0 N K e (C ++ R)) : Run W0 N K e A := run_tk (r := kH) (b := 0) (run_grp k)

/-- An array of zeros. -/
theorem v_build0 {E n sz : Nat} {ps : Array (Nat × Operand)} (hu : P.underlying t = some (.array n E)) (hs : ∀ w, (sizeOf E).run P w = .ok sz w) (hz : ∀ w, (zeroValue t).run P w = .ok (.agg l.toArray) w) (hp : ps = #[]) :
    Val P S N e (.build t ps) (.agg l.toArray) := fun a w _ _ _ _ _ hF _ => by
  subst hp
  have hb : Instr.build t ((#[] : Array (Nat × Operand)).map fun (i, x) => (i, a.eval x)) = (do
      let zero := (← zeroValue t).cells
      match ← underlying t with
      | .struct fields =>
        let places ← fields.mapM placeOf
        let some cells := Instr.fill (places[·]?) zero ((#[] : Array (Nat × Operand)).map fun (i, x) => (i, a.eval x)).toList | stuck "build: no such field, or a part of the wrong size"
        pure (.agg cells)
      | .array _ elem =>
        let size ← sizeOf elem
        let some cells := Instr.fill (fun i => some (i * size, size)) zero ((#[] : Array (Nat × Operand)).map fun (i, x) => (i, a.eval x)).toList | stuck "build: a part of the wrong size"
        pure (.agg cells)
      | _ => stuck "build: struct or array type expected") := rfl
  simp only [execOp, hb, Sem.run_bind, hz, run_und hu, hs, Result.andThen_ok, Value.cells, Sem.run_pure]
  simp [Instr.fill]

/-- The elements of a slice read so. -/
def SlA {α : Type} (S : World → Prop) (a : Option Addr) (sz : Nat) (f : α → List Value) (xs : List α) : Prop :=
  ∀ i x, xs[i]? = some x → ∃ b off, a = some ⟨b, off, none⟩ ∧ Cells S b (off + i * sz) (f x)
variable {α : Type} {sz : Nat} {f : α → List Value} {xs : List α} {a : Option Addr}
theorem sla_nil : SlA S a sz f [] := fun i x h => by simp at h
theorem SlA.weak (h : SlA (OwnP W0 B) a sz f xs) [k : Ent A B] : SlA (OwnP W0 A) a sz f xs := fun i x hi => by
  obtain ⟨b, off, rfl, hc⟩ := h i x hi
  exact ⟨b, off, rfl, hc.weak⟩
theorem SlA.at_ (h : SlA S a sz f xs) {i : Nat} (hi : i < xs.length) : ∃ b off, a = some ⟨b, off, none⟩ ∧ Cells S b (off + i * sz) (f xs[i]) := h i xs[i] (by simp [hi])
theorem sla_own {E n c : Nat} {ys : List Value} {w : World} [h : Tk (osl E sz) (.slice a n c) A ys R] (hf : ∀ x, (f x).length = sz) (hz : 0 < sz) (hy : ys = xs.flatMap f) (hO : Own W0 w A) : SlA (OwnP W0 A) a sz f xs := by
  rcases (hO.tk (r := osl E sz) (b := .slice a n c)).osl with ⟨k1, k2, _⟩ | ⟨g, n', cap, sp, k1, _, _, _, _, _⟩
  · have : xs = [] := by
      have hl := flat_len hf xs
      rw [← hy, k2] at hl
      rcases Nat.eq_zero_or_pos xs.length with q | q
      · exact List.eq_nil_of_length_eq_zero q
      · have := Nat.mul_pos q hz
        simp at hl; omega
    subst this; exact sla_nil
  · cases k1
    intro i x hi
    have hlt : i < xs.length := by
      rcases Nat.lt_or_ge i xs.length with k | k
      · exact k
      · rw [List.getElem?_eq_none k] at hi; cases hi
    have hx : x = xs[i] := by rw [List.getElem?_eq_getElem hlt] at hi; exact (Option.some.inj hi).symm
    subst hx
    refine ⟨g, 0, rfl, fun j v hj w' hO' => ?_⟩
    rcases (Own.tk (r := osl E sz) (b := .slice (some ⟨g, 0, none⟩) n c) hO').osl with ⟨q1, _, _⟩ | ⟨g', n'', cap', sp', q1, _, _, _, _, q6⟩
    · cases q1
    · cases q1
      have hb := q6.has.2
      have hjl : j < sz := by
        rcases Nat.lt_or_ge j (f xs[i]).length with q | q
        · rw [hf] at q; exact q
        · rw [List.getElem?_eq_none q] at hj; cases hj
      have hg := flat_get hf xs i j sp' hlt hjl
      subst hy
      rw [hj] at hg
      simp only [World.cell?, hb, Option.isSome_none, Bool.false_eq_true, if_false, List.getElem?_toArray, Nat.zero_add]
      exact hg
theorem sla_pt {l : List Value} [h : Tk pt b A (cob l ty) R] (hf : ∀ x, (f x).length = sz) (hl : l = xs.flatMap f) : SlA (OwnP W0 A) (some ⟨b, 0, none⟩) sz f xs := fun i x hi => by
  have hlt : i < xs.length := by
    rcases Nat.lt_or_ge i xs.length with k | k
    · exact k
    · rw [List.getElem?_eq_none k] at hi; cases hi
  have hx : x = xs[i] := by rw [List.getElem?_eq_getElem hlt] at hi; exact (Option.some.inj hi).symm
  subst hx
  refine ⟨b, 0, rfl, fun j v hj => cell_own (l := l) (ty := ty) (R := R) ?_⟩
  have hjl : j < sz := by
    rcases Nat.lt_or_ge j (f xs[i]).length with q | q
    · rw [hf] at q; exact q
    · rw [List.getElem?_eq_none q] at hj; cases hj
  have hg := flat_get hf xs i j [] hlt hjl
  rw [List.append_nil, hj] at hg
  subst hl
  rw [Nat.zero_add]; exact hg
theorem run_sla {E n c : Nat} {ys : List Value} {K : Act → World → Prop} [h : Tk (osl E sz) (.slice a n c) A ys R] (f : α → List Value) (xs : List α) (hf : ∀ x, (f x).length = sz) (hz : 0 < sz) (hy : ys = xs.flatMap f) (k : SlA (OwnP W0 A) a sz f xs → Run W0 N K e A) : Run W0 N K e A :=
  fun a w hF hO => k (sla_own (h := h) hf hz hy hO) a w hF hO
theorem spec_sla {E n c : Nat} {ys : List Value} {fn : FuncId} {args : List Value} {Post : Value → List HP → Prop} [h : Tk (osl E sz) (.slice a n c) A ys R] (f : α → List Value) (xs : List α) (hf : ∀ x, (f x).length = sz) (hz : 0 < sz) (hy : ys = xs.flatMap f)
    (k : SlA (OwnP W0 A) a sz f xs → Spec P W0 fn args A Post) : Spec P W0 fn args A Post := fun w hO => k (sla_own (h := h) hf hz hy hO) w hO
/-- Where a slice lies, or that it is none. -/
def obk : Option Addr → Nat
  | some ad => ad.block
  | none => 0
def Frm0 (a : Option Addr) (ys : List Value) : Prop := (a = none ∧ ys = []) ∨ ∃ g, a = some ⟨g, 0, none⟩
theorem run_form {E n c : Nat} {ys : List Value} {K : Act → World → Prop} [h : Tk (osl E sz) (.slice a n c) A ys R] (k : Frm0 a ys → Run W0 N K e A) : Run W0 N K e A := fun act w hF hO => by
  refine k ?_ act w hF hO
  rcases (hO.tk (r := osl E sz) (b := .slice a n c)).osl with ⟨k1, k2, _⟩ | ⟨g, n', cap, sp, k1, _, _, _, _, _⟩
  · cases k1; exact .inl ⟨rfl, k2⟩
  · cases k1; exact .inr ⟨g, rfl⟩
theorem cells_osl {E n c : Nat} {ys : List Value} [h : Tk (osl E sz) (.slice a n c) A ys R] : Cells (OwnP W0 A) (obk a) 0 ys := fun i v hi w hO => by
  rcases (Own.tk (r := osl E sz) (b := .slice a n c) hO).osl with ⟨k1, k2, _⟩ | ⟨g, n', cap, sp, k1, _, _, _, _, q⟩
  · rw [k2] at hi; simp at hi
  · cases k1
    have hb := q.has.2
    have hlt : i < ys.length := by
      rcases Nat.lt_or_ge i ys.length with k | k
      · exact k
      · rw [List.getElem?_eq_none k] at hi; cases hi
    simp only [obk, World.cell?, hb, Option.isSome_none, Bool.false_eq_true, if_false, List.getElem?_toArray, Nat.zero_add]
    rw [List.getElem?_append_left hlt]; exact hi
theorem sla_cells {ys : List Value} (hf : Frm0 a ys) (hc : Cells S (obk a) 0 ys) (hl : ∀ x, (f x).length = sz) (hy : ys = xs.flatMap f) (hz : 0 < sz) : SlA S a sz f xs := fun i x hi => by
  have hlt : i < xs.length := by
    rcases Nat.lt_or_ge i xs.length with k | k
    · exact k
    · rw [List.getElem?_eq_none k] at hi; cases hi
  have hx : x = xs[i] := by rw [List.getElem?_eq_getElem hlt] at hi; exact (Option.some.inj hi).symm
  subst hx
  rcases hf with ⟨_, h0⟩ | ⟨g, rfl⟩
  · have := flat_len hl xs
    rw [← hy, h0] at this
    have h2 := Nat.mul_pos (show 0 < xs.length by omega) hz
    simp at this; omega
  · refine ⟨g, 0, rfl, fun j v hj => ?_⟩
    have hjl : j < sz := by
      rcases Nat.lt_or_ge j (f xs[i]).length with q | q
      · rw [hl] at q; exact q
      · rw [List.getElem?_eq_none q] at hj; cases hj
    have hg := flat_get hl xs i j [] hlt hjl
    rw [List.append_nil, hj, ← hy] at hg
    have := hc _ v hg
    rw [Nat.zero_add] at this ⊢
    exact this
/-- All of them, side by side. -/
theorem SlA.all (h : SlA S a sz f xs) (hne : xs ≠ []) (hf : ∀ x, (f x).length = sz) : ∃ b off, a = some ⟨b, off, none⟩ ∧ Cells S b off (xs.flatMap f) := by
  obtain ⟨b, off, rfl, h0⟩ := h.at_ (i := 0) (List.length_pos_iff.2 hne)
  refine ⟨b, off, rfl, fun j v hj => ?_⟩
  have hl := flat_len hf xs
  have hjl : j < xs.length * sz := by
    rcases Nat.lt_or_ge j (xs.flatMap f).length with q | q
    · omega
    · rw [List.getElem?_eq_none q] at hj; cases hj
  have hz : 0 < sz := by
    rcases Nat.eq_zero_or_pos sz with q | q
    · subst q; simp at hjl
    · exact q
  have hi : j / sz < xs.length := (Nat.div_lt_iff_lt_mul hz).2 hjl
  obtain ⟨b', off', he, hc⟩ := h.at_ hi
  cases he
  have hm : j / sz * sz + j % sz = j := by rw [Nat.mul_comm]; exact Nat.div_add_mod j sz
  have hg := flat_get hf xs (j / sz) (j % sz) [] hi (Nat.mod_lt _ hz)
  rw [List.append_nil, hm, hj] at hg
  have := hc (j % sz) v hg.symm
  rwa [Nat.add_assoc, hm] at this
end
def inI (x : Int) : List Value := [.int .i64 x]
end Go.Proofs.YteolepiendmhlaaGreatDoor
