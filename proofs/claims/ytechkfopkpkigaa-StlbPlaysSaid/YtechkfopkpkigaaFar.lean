/-
  Arrays as values, scopes, leaving a loop over a function by a break, lists that are filled in. Nothing of one program stands here.
-/
import Derived.Test.YtechkfopkpkigaaKit
import Derived.Scope
namespace Go.Proofs.Ytechkfopkpkigaa
open Go.RowKit
set_option linter.unusedSimpArgs false
set_option linter.unusedVariables false

section
variable {rd : Option Nat} {P : Program} {S : World → Prop} {W0 : World} {N : FSz} {Q : Exit → Act → World → Prop} {e : Env} {A B R : List HP} {ops : Array Oper} {rest : List Oper}
variable {op : Op} {ty t t' : TypeId} {pos : String} {af : Array Edge} {v u : Value} {d b off : Nat} {x y z : Operand} {l l' vs : List Value} {L : Nat} {xr : RecX}

theorem v_buildArr {E n : Nat} {ps : Array (Nat × Operand)} (hu : P.underlying t = some (.array n E)) (hs : ∀ w, (sizeOf E).run P w = .ok 1 w) (hz : ∀ w, (zeroValue t).run P w = .ok (.agg l.toArray) w)
    (hev : evs e (ps.toList.map (·.2)) = some vs) (hix : ps.toList.map (·.1) = List.range' 0 ps.toList.length) (ha1 : allOne vs = true) (hn : vs.length = l.length) : Val P S N e (.build t ps) (.agg vs.toArray) := fun a w _ _ _ _ _ hF _ => by
  have hel := els_of ps.toList 0 vs hev hix ha1
  have hfl := els_fill (fun x v h => hF.eval h) ps.toList vs [] l (by simpa using hel) hn.symm
  simp only [Nat.mul_one, List.nil_append] at hfl
  have hb : Instr.build t (ps.map fun (i, x) => (i, a.eval x)) = (do
      let zero := (← zeroValue t).cells
      match ← underlying t with
      | .struct fields =>
        let places ← fields.mapM placeOf
        let some cells := Instr.fill (places[·]?) zero (ps.map fun (i, x) => (i, a.eval x)).toList | stuck "build: no such field, or a part of the wrong size"
        pure (.agg cells)
      | .array _ elem =>
        let size ← sizeOf elem
        let some cells := Instr.fill (fun i => some (i * size, size)) zero (ps.map fun (i, x) => (i, a.eval x)).toList | stuck "build: a part of the wrong size"
        pure (.agg cells)
      | _ => stuck "build: struct or array type expected") := rfl
  simp only [execOp, hb, Sem.run_bind, hz, run_und hu, hs, Result.andThen_ok, Value.cells, Sem.run_pure, Array.toList_map, Nat.mul_one]
  rw [hfl]; rfl
theorem v_index {E n : Nat} {k : IntKind} {i : Int} {j : Nat} (hu : P.underlying t = some (.array n E)) (hs : ∀ w, (sizeOf E).run P w = .ok 1 w) (ha : ∀ w, (isAgg E).run P w = .ok false w) (hx : ev e x = some (.agg l.toArray)) (hy : ev e y = some (.int k i))
    (hi : i = (j : Int)) (hj : j < n) (hl : l[j]? = some v) : Val P S N e (.index t x y) v := fun a w _ _ _ _ _ hF _ => by
  subst hi
  have h1 : (0 : Int) ≤ (j : Int) ∧ (j : Int) < (n : Int) := by omega
  have hlt : j < l.length := by
    rcases Nat.lt_or_ge j l.length with q | q
    · exact q
    · rw [List.getElem?_eq_none q] at hl; cases hl
  simp only [execOp, Instr.index, hF.eval hx, hF.eval hy, asIntOf, Sem.run_bind, Sem.run_pure, Result.andThen_ok, run_und hu, h1, and_self, if_true, hs, Int.toNat_natCast, Nat.mul_one]
  rw [part_scal ha hl]; rfl

theorem x_scope {c : Code} (h : Run W0 N (c.wpR none P (Exit.noGoto Q)) e A) : Run W0 N ((Code.scope c).wpR none P Q) e A := fun a w hF hO => wpR_wide.2 (wp_scope_straight (wpR_wide.1 (h a w hF hO)))
instance pok_scope [h : POk Q] : POk (Exit.noGoto Q) := ⟨fun c a d v w k => h.ok c a d v w k⟩
theorem n_scope (h : Run W0 N (Ex Q .normal) e A) : Run W0 N (Ex (Exit.noGoto Q) .normal) e A := h
theorem r_scope (h : Run W0 N (Ex Q .ret) e A) : Run W0 N (Ex (Exit.noGoto Q) .ret) e A := h
theorem e_scope {id : Nat} (h : Run W0 N (Ex Q (.exit id)) e A) : Run W0 N (Ex (Exit.noGoto Q) (.exit id)) e A := h

theorem r_exit {id : Nat} {Post : Value → List HP → Prop} [h : Tk recH L A xr R] (hp : ∃ B, Post (.bool false) B ∧ Ent (recH L { xr with st := .done, pe := some (.exit id) } :: R) B) : Run W0 N (Ex (RoundQ P W0 L Post) (.exit id)) e A := by
  intro a w hF hO
  obtain ⟨fn, tmps, h1, h2, hO1⟩ := (hO.tk (r := recH) (b := L)).loopRec
  obtain ⟨B, hB, hE⟩ := hp
  exact ⟨_, _, run_endRound (some (.exit id)) hO1.has.2, _, B, rfl, hB, Own.ent (Own.toRec (x := { xr with st := .done, pe := some (.exit id) }) h1 h2 (hO1.turn _)) hE⟩
/-- A range over a function that may be left by a break. -/
theorem x_rangeFuncE {n gf : Nat} {g : Operand} {ps : Array Tmp} {asg body : Code} {lb : List Value} (id : Nat) (Go Stop : List HP → Prop) (hg : ev e g = some (.func (.func gf) #[] lb.toArray))
    (hc : ∀ args w, (callFunc gf args).run P w = .ok (.enter gf args) w)
    (hs : ∀ L D, Spec P W0 gf (.func (.yield L) #[] #[] :: lb) (recH L ⟨e, n, ps, asg, body, .ready, none, D⟩ :: pt D (.deferred (some [])) :: A)
      (fun _ B => (∃ C, B = recH L ⟨e, n, ps, asg, body, .ready, none, D⟩ :: pt D (.deferred (some [])) :: C ∧ Go C) ∨ (∃ C, B = recH L ⟨e, n, ps, asg, body, .done, some (.exit id), D⟩ :: pt D (.deferred (some [])) :: C ∧ Stop C)))
    (hgo : ∀ D C, Go C → Run W0 ⟨n, [mark D]⟩ (Ex Q .normal) e (pt D (.deferred (some [])) :: C))
    (hstop : ∀ D C, Stop C → Run W0 ⟨n, [mark D]⟩ (Ex Q (.exit id)) e (pt D (.deferred (some [])) :: C)) :
    Run W0 ⟨n, []⟩ ((Code.rangeFunc g ps asg body).wpR none P Q) e A := by
  intro a w hF hO
  refine wpIn_rangeFunc (F := FW none) (n := 0) ?_
  intro fn _
  have hO1 : Own W0 ((w.alloc (.deferred (some []))).alloc (.loop ((⟨e, n, ps, asg, body, .ready, none, w.heap.size⟩ : RecX).loop fn a.tmps))) (recH (w.heap.size + 1) ⟨e, n, ps, asg, body, .ready, none, w.heap.size⟩ :: pt w.heap.size (.deferred (some [])) :: A) := by
    refine Own.toRec (fn := fn) hF.size hF.at_ ?_
    have h1 := (hO.new (.deferred (some []))).new (.loop ((⟨e, n, ps, asg, body, .ready, none, w.heap.size⟩ : RecX).loop fn a.tmps))
    have e1 : (w.heap.push (.deferred (some []))).size = w.heap.size + 1 := by simp
    simp only [e1] at h1
    exact h1
  have hent := run_enterLoop_outer (P := P) (w := w) fn a.tmps ps asg body
  generalize hW1 : (w.alloc (.deferred (some []))).alloc (.loop ((⟨e, n, ps, asg, body, .ready, none, w.heap.size⟩ : RecX).loop fn a.tmps)) = W1 at hO1
  rw [show (w.alloc (.deferred (some []))).alloc (.loop { state := .ready, pending := none, fn, tmps := a.tmps, params := ps, assign := asg, body, defers := w.heap.size }) = W1 from hW1] at hent
  have hF' : ∀ D, Fr { a with defers := [mark D] ++ a.defers } ⟨n, [mark D]⟩ e := fun D => ⟨by simp [hF.defers], hF.size, hF.at_⟩
  refine ⟨w.heap.size + 1, [{ target := .collected w.heap.size, args := #[] }], W1, { target := .fn (.func gf) lb.toArray, args := #[.func (.yield (w.heap.size + 1)) #[] #[]] }, W1, gf,
    #[.func (.yield (w.heap.size + 1)) #[] #[]] ++ lb.toArray, W1, hent, ?_, fun _ _ => trivial, ?_, fun h => (by cases h), ?_⟩
  · have hgv := hF.eval hg
    simp only [resolve, hgv]
    simp [go_sem]
  · simp [invoke, go_sem, hc]
  · refine callsR.2 ?_
    have e2 : (#[.func (.yield (w.heap.size + 1)) #[] #[]] ++ lb.toArray : Array Value) = (.func (.yield (w.heap.size + 1)) #[] #[] :: lb).toArray := by simp
    rw [e2]
    refine Calls.mono (hs (w.heap.size + 1) w.heap.size _ hO1) ?_
    rintro _ w' ⟨v, B, rfl, hp, hO2⟩
    rcases hp with ⟨C, rfl, hC⟩ | ⟨C, rfl, hC⟩
    · obtain ⟨fn', tmps', h1, h2, hO3⟩ := hO2.loopRec
      refine ⟨none, _, run_endLoop hO3.has.2 (by simp [RecX.loop]), ?_⟩
      exact hgo _ C hC _ _ (hF' _) (hO3.turn _).drop
    · obtain ⟨fn', tmps', h1, h2, hO3⟩ := hO2.loopRec
      refine ⟨some (.exit id), _, run_endLoop hO3.has.2 (by simp [RecX.loop]), ?_⟩
      exact wpIn_exit (hstop _ C hC _ _ (hF' _) (hO3.turn _).drop)

/-! ### A list that is filled from the front -/
def outV (f : Nat → Value) (z : Value) (n i : Nat) : List Value := (List.range n).map fun j => if j < i then f j else z
theorem outV_len {f : Nat → Value} {z : Value} {n i : Nat} : (outV f z n i).length = n := by simp [outV]
theorem outV_zero {f : Nat → Value} {z : Value} {n : Nat} : outV f z n 0 = List.replicate n z := by
  apply List.ext_getElem <;> simp [outV]
theorem outV_full {f : Nat → Value} {z : Value} {n : Nat} : outV f z n n = (List.range n).map f := by
  apply List.ext_getElem
  · simp [outV]
  · intro i h1 h2
    have : i < n := by simpa using h2
    simp [outV, this]
theorem outV_set {f : Nat → Value} {z : Value} {n i : Nat} (hi : i < n) : (outV f z n i).set i (f i) = outV f z n (i + 1) := by
  apply List.ext_getElem
  · simp [outV]
  · intro j h1 h2
    have hj : j < n := by simpa [outV] using h2
    by_cases e : i = j
    · subst e; simp [outV]
    · have : (j < i + 1) ↔ j < i := by omega
      simp [outV, List.getElem_set, e, this]
theorem outV_set1 {f : Nat → Value} {z : Value} {n i : Nat} (hi : i < n) : (outV f z n i).set (i * 1) (f i) = outV f z n (i + 1) := by rw [Nat.mul_one]; exact outV_set hi
theorem cell_osl {E n c g j sz : Nat} {ys : List Value} [h : Tk (osl E sz) (.slice (some ⟨g, 0, none⟩) n c) A ys R] (hv : ys[j]? = some v) : Cell (OwnP W0 A) g j v := by
  have := cells_osl (h := h) (W0 := W0) j v hv
  rwa [Nat.zero_add] at this
theorem run_cap {E n c sz : Nat} {a : Option Addr} {ys : List Value} {K : Act → World → Prop} [h : Tk (osl E sz) (.slice a n c) A ys R] (k : n ≤ c ∧ c ≤ maxLen → Run W0 N K e A) : Run W0 N K e A := fun act w hF hO => by
  refine k ?_ act w hF hO
  rcases (hO.tk (r := osl E sz) (b := .slice a n c)).osl with ⟨k1, k2, _⟩ | ⟨g, n', cap, sp, k1, k2, k3, _, _, _⟩
  · cases k1; simp
  · cases k1; exact ⟨k2, k3⟩
theorem wrapN (n : Nat) : IntKind.wrap .u32 (n : Int) = ((n % 4294967296 : Nat) : Int) := by
  simp only [IntKind.wrap, IntKind.bits, IntKind.signed]; simp
theorem form_some {a : Option Addr} {ys : List Value} (h : Frm0 a ys) (hne : ys ≠ []) : ∃ g, a = some ⟨g, 0, none⟩ := by
  rcases h with ⟨_, q⟩ | q
  · exact absurd q hne
  · exact q
theorem range_get {f : Nat → Value} {n i : Nat} (hi : i < n) : ((List.range n).map f)[i]? = some (f i) := by simp [hi]
theorem range_get1 {f : Nat → Value} {n i : Nat} (hi : i < n) : ((List.range n).map f)[i * 1]? = some (f i) := by simp [hi]
end
end Go.Proofs.Ytechkfopkpkigaa
