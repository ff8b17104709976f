/-
  More operations: interfaces, function values, slices of slices, append; rows of equal width in a list of cells. Nothing of one program stands here.
-/
import Derived.Test.YteolepiendmhlaaGreatDoorDraw
namespace Go.Proofs.YteolepiendmhlaaGreatDoor
open Go.RowKit
set_option linter.unusedSimpArgs false
set_option linter.unusedVariables false

/-! ### Rows of equal width -/
section
variable {α : Type} {f : α → List Value} {k : Nat}

theorem flat_len (hf : ∀ x, (f x).length = k) : ∀ (l : List α), (l.flatMap f).length = l.length * k
  | [] => by simp
  | x :: l => by rw [List.flatMap_cons, List.length_append, hf, flat_len hf l, List.length_cons, Nat.succ_mul, Nat.add_comm]
theorem flat_drop (hf : ∀ x, (f x).length = k) : ∀ (l : List α) (i : Nat) (sp : List Value), i ≤ l.length → (l.flatMap f ++ sp).drop (i * k) = (l.drop i).flatMap f ++ sp
  | l, 0, sp, _ => by simp
  | [], i + 1, sp, h => by simp at h
  | x :: l, i + 1, sp, h => by
    have h0 : (f x ++ (l.flatMap f ++ sp)).drop k = l.flatMap f ++ sp := by
      rw [List.drop_append_of_le_length (by rw [hf]; omega), List.drop_of_length_le (by rw [hf]; omega), List.nil_append]
    rw [List.flatMap_cons, List.append_assoc, Nat.succ_mul, Nat.add_comm (i * k) k, ← List.drop_drop, h0, List.drop_succ_cons]
    exact flat_drop hf l i sp (by simpa using h)
theorem flat_row (hf : ∀ x, (f x).length = k) (l : List α) (i : Nat) (sp : List Value) (h : i < l.length) : ((l.flatMap f ++ sp).drop (i * k)).take k = f l[i] := by
  rw [flat_drop hf l i sp (by omega), List.drop_eq_getElem_cons h, List.flatMap_cons, List.append_assoc]
  rw [List.take_append_of_le_length (by rw [hf]; omega), List.take_of_length_le (by rw [hf]; omega)]
theorem flat_get (hf : ∀ x, (f x).length = k) (l : List α) (i j : Nat) (sp : List Value) (h : i < l.length) (hj : j < k) : (l.flatMap f ++ sp)[i * k + j]? = (f l[i])[j]? := by
  have := congrArg (fun r => r[j]?) (flat_row hf l i sp h)
  simp only [List.getElem?_take_of_lt hj, List.getElem?_drop] at this
  exact this
theorem setR_eq : ∀ (vs l : List Value) (i : Nat), i + vs.length ≤ l.length → setR l i vs = l.take i ++ vs ++ l.drop (i + vs.length)
  | [], l, i, h => by simp [setR]
  | v :: vs, l, i, h => by
    simp only [List.length_cons] at h
    rw [setR, setR_eq vs (l.set i v) (i + 1) (by simp; omega)]
    have h1 : (l.set i v).take (i + 1) = l.take i ++ [v] := by
      rw [List.take_set, List.take_succ_eq_append_getElem (by omega)]
      rw [List.set_append_right _ _ (by simp; omega)]
      simp [Nat.min_eq_left (show i ≤ l.length by omega)]
    have h2 : (l.set i v).drop (i + 1 + vs.length) = l.drop (i + (vs.length + 1)) := by
      rw [List.drop_set_of_lt (by omega)]; congr 1; omega
    rw [h1, h2]; simp
theorem flat_take (hf : ∀ x, (f x).length = k) (l : List α) (i : Nat) (sp : List Value) (h : i ≤ l.length) : (l.flatMap f ++ sp).take (i * k) = (l.take i).flatMap f := by
  have e : l.flatMap f = (l.take i).flatMap f ++ (l.drop i).flatMap f := by rw [← List.flatMap_append, List.take_append_drop]
  have hl : ((l.take i).flatMap f).length = i * k := by rw [flat_len hf, List.length_take, Nat.min_eq_left h]
  rw [e, List.append_assoc, List.take_append_of_le_length (by omega), List.take_of_length_le (by omega)]
theorem flat_set (hf : ∀ x, (f x).length = k) (l : List α) (i : Nat) (x : α) (sp : List Value) (h : i < l.length) : setR (l.flatMap f ++ sp) (i * k) (f x) = (l.set i x).flatMap f ++ sp := by
  have hlen := flat_len hf l
  have hb : i * k + k ≤ l.length * k := by have := Nat.mul_le_mul_right k (show i + 1 ≤ l.length by omega); rw [Nat.succ_mul] at this; exact this
  rw [setR_eq _ _ _ (by rw [hf, List.length_append]; omega), hf, flat_take hf l i sp (by omega)]
  have e : i * k + k = (i + 1) * k := by rw [Nat.succ_mul]
  rw [e, flat_drop hf l (i + 1) sp (by omega), List.set_eq_take_append_cons_drop, if_pos h]
  simp [List.flatMap_append, List.flatMap_cons]
theorem set_seg (L : List Value) (o k j : Nat) (v : Value) (h : o + k ≤ L.length) (hj : j < k) : L.take o ++ ((L.drop o).take k).set j v ++ L.drop (o + k) = L.set (o + j) v := by
  have e : L = L.take o ++ ((L.drop o).take k ++ L.drop (o + k)) := by
    rw [← List.drop_drop, List.take_append_drop, List.take_append_drop]
  have h1 : (L.take o).length = o := by rw [List.length_take]; omega
  have h2 : ((L.drop o).take k).length = k := by rw [List.length_take, List.length_drop]; omega
  conv => rhs; rw [e]
  rw [List.set_append_right _ _ (by omega), h1, Nat.add_sub_cancel_left, List.set_append_left _ _ (by omega), List.append_assoc]
/-- One cell of one row. -/
theorem flat_set1 (hf : ∀ x, (f x).length = k) (l : List α) (i j : Nat) (v : Value) (x : α) (sp : List Value) (h : i < l.length) (hj : j < k) (hx : f x = (f l[i]).set j v) : (l.flatMap f ++ sp).set (i * k + j) v = (l.set i x).flatMap f ++ sp := by
  have hb : i * k + k ≤ l.length * k := by have := Nat.mul_le_mul_right k (show i + 1 ≤ l.length by omega); rw [Nat.succ_mul] at this; exact this
  have hlen := flat_len hf l
  have hle : i * k + k ≤ (l.flatMap f ++ sp).length := by rw [List.length_append, hlen]; omega
  rw [← flat_set hf l i x sp h, hx, ← flat_row hf l i sp h, setR_eq _ _ _ (by rw [List.length_set, List.length_take, List.length_drop]; omega)]
  rw [List.length_set, List.length_take, List.length_drop, Nat.min_eq_left (by omega)]
  exact (set_seg _ _ _ _ _ hle hj).symm
end

section
variable {rd : Option Nat} {P : Program} {S : World → Prop} {W0 : World} {N : FSz} {Q : Exit → Act → World → Prop} {e : Env} {A B R : List HP} {ops : Array Oper} {rest : List Oper}
variable {op : Op} {ty t t' : TypeId} {pos : String} {af : Array Edge} {v u : Value} {d b off : Nat} {x y : Operand} {l l' vs : List Value}

theorem v_mkI {de : TypeDesc} (hu : P.underlying t = some de) (hn : ∀ ms, de ≠ .interface ms) (hx : ev e x = some v) : Val P S N e (.makeInterface t x) (.iface t v) := fun a w _ _ _ _ _ hF _ => by
  simp only [execOp, Instr.makeInterface, hF.eval hx, Sem.run_bind, run_und hu, Result.andThen_ok]
  cases de <;> first | rfl | exact absurd rfl (hn _)
theorem v_assert {de : TypeDesc} (hu : P.underlying t' = some de) (hn : ∀ ms, de ≠ .interface ms) (hx : ev e x = some (.iface t' v)) : Val P S N e (.typeAssert x t t' false) v := fun a w _ _ _ _ _ hF _ => by
  simp only [execOp, Instr.typeAssert, hF.eval hx, Sem.run_bind, run_und hu, Result.andThen_ok]
  cases de <;> first | (simp; done) | exact absurd rfl (hn _)
theorem v_mkFunc {fn : Fn} {fs cs : Array Operand} {us : List Value} (h1 : evs e fs.toList = some us) (h2 : evs e cs.toList = some vs) : Val P S N e (.makeFunc fn fs cs) (.func fn us.toArray vs.toArray) := fun a w _ _ _ _ _ hF _ => by
  have e1 : fs.map a.eval = us.toArray := by rw [← hF.evals h1]; apply Array.ext'; simp
  have e2 : cs.map a.eval = vs.toArray := by rw [← hF.evals h2]; apply Array.ext'; simp
  simp [execOp, Instr.makeFunc, e1, e2]
theorem add_zero (a : Addr) : a.add 0 = a := rfl
/-- x[:h] -/
theorem v_sliceH {E n c : Nat} {a' : Option Addr} {k : IntKind} {h : Nat} {i : Int} (hu : P.underlying t = some (.slice E)) (hs : ∀ w, (sizeOf E).run P w = .ok d w) (hx : ev e x = some (.slice a' n c)) (hy : ev e y = some (.int k i)) (hi : i = (h : Int)) (hc : h ≤ c) :
    Val P S N e (.slice t x none (some y) none) (.slice a' h c) := fun a w _ _ _ _ _ hF _ => by
  subst hi
  have h1 : (0 : Int) ≤ (h : Int) ∧ (h : Int) ≤ (c : Int) := by omega
  simp only [execOp, Instr.sliceAt, Instr.slice, hF.eval hx, hF.eval hy, Sem.run_bind, run_und hu, Result.andThen_ok, Option.map_none, Option.map_some, Instr.sliceBounds, Instr.sliceBound, asIntOf, hs, Sem.run_pure, h1, and_self, if_true]
  by_cases hc0 : c = 0
  · simp [hc0]
  · simp [hc0, add_zero]

theorem d_invoke {recv : Operand} {nm : String} {xs : Array Operand} {ats : Array TypeId} {T : TypeId} {rv rv' : Value} {f : FuncId} {Post : Value → List HP → Prop} (hr : ev e recv = some (.iface T rv))
    (hm : ∀ w, (method (P.types.size + Made.depth) T rv nm).run P w = .ok (f, rv') w) (hc : ∀ args w, (callFunc f args).run P w = .ok (.enter f args) w) (hx : evs e xs.toList = some vs)
    (hs : Spec P W0 f (rv' :: vs) A Post) : Does P W0 N e A (.call { callee := .invoke recv nm, args := xs, argTypes := ats }) Post := by
  intro a w dst ty pos af g K Q hF hO k
  have he : xs.map a.eval = vs.toArray := by
    have := hF.evals hx
    rw [← this]; apply Array.ext'; simp
  unfold Oper.wp
  have hrun : (execOp a.eval { dst := dst, op := .call { callee := .invoke recv nm, args := xs, argTypes := ats }, type := ty, pos := pos, after := af, guard := g }).run P w = .ok (.enter f (rv' :: vs).toArray) w := by
    simp only [execOp, resolve, Sem.run_bind, Sem.run_pure, Result.andThen_ok, invoke, he, hF.eval hr]
    have e0 : (#[Value.iface T rv] ++ vs.toArray : Array Value)[0]? = some (.iface T rv) := by simp
    have e1 : (#[Value.iface T rv] ++ vs.toArray : Array Value).extract 1 (#[Value.iface T rv] ++ vs.toArray : Array Value).size = vs.toArray := by
      apply Array.ext'; simp
    simp only [e0, e1, callMethod, Sem.run_bind, run_program, Result.andThen_ok, hm]
    rw [show (#[rv'] ++ vs.toArray : Array Value) = (rv' :: vs).toArray by simp, hc]
  rw [hrun]
  refine (hs w hO).mono ?_
  rintro _ w' ⟨v, B, rfl, hp, hO'⟩
  exact k v w' B hp hO'
theorem d_callv {fx : Operand} {xs : Array Operand} {ats : Array TypeId} {f : FuncId} {us cs : List Value} {Post : Value → List HP → Prop} (hf : ev e fx = some (.func (.func f) us.toArray cs.toArray))
    (hc : ∀ args w, (callFunc f args).run P w = .ok (.enter f args) w) (hx : evs e xs.toList = some vs) (hs : Spec P W0 f (us ++ vs ++ cs) A Post) : Does P W0 N e A (.call { callee := .value fx, args := xs, argTypes := ats }) Post := by
  intro a w dst ty pos af g K Q hF hO k
  have he : xs.map a.eval = vs.toArray := by
    have := hF.evals hx
    rw [← this]; apply Array.ext'; simp
  unfold Oper.wp
  have hrun : (execOp a.eval { dst := dst, op := .call { callee := .value fx, args := xs, argTypes := ats }, type := ty, pos := pos, after := af, guard := g }).run P w = .ok (.enter f (us ++ vs ++ cs).toArray) w := by
    simp only [execOp, resolve, Deferred.ofValue, Sem.run_bind, Sem.run_pure, Result.andThen_ok, invoke, he, hF.eval hf]
    rw [show (us.toArray ++ vs.toArray ++ cs.toArray : Array Value) = (us ++ vs ++ cs).toArray by simp, hc]
  rw [hrun]
  refine (hs w hO).mono ?_
  rintro _ w' ⟨v, B, rfl, hp, hO'⟩
  exact k v w' B hp hO'
theorem does_ent {Post : Value → List HP → Prop} (hp : Ent A B) (h : Does P W0 N e B op Post) : Does P W0 N e A op Post :=
  fun a w dst ty pos af g K Q hF hO k => h a w dst ty pos af g K Q hF (hO.ent hp) k
theorem does_post {Post Post' : Value → List HP → Prop} (h : Does P W0 N e A op Post) (k : ∀ v B, Post v B → Post' v B) : Does P W0 N e A op Post' :=
  fun a w dst ty pos af g K Q hF hO q => h a w dst ty pos af g K Q hF hO (fun v w' B hp hO' => q v w' B (k v B hp) hO')
/-! ### append -/
/-- A slice of the call's own: nil, or a row at the head of a block. -/
def osl (E : TypeId) (sz : Nat) (v : Value) (xs : List Value) : HP := fun l =>
  (v = .slice none 0 0 ∧ xs = [] ∧ l = []) ∨
  ∃ g n cap sp, v = .slice (some ⟨g, 0, none⟩) n cap ∧ n ≤ cap ∧ cap ≤ maxLen ∧ xs.length = n * sz ∧ (xs ++ sp).length = cap * sz ∧ l = [(g, cob (xs ++ sp) E)]

theorem Own.osl {E sz : Nat} {w : World} {xs : List Value} (h : Own W0 w (osl E sz v xs :: A)) : (v = .slice none 0 0 ∧ xs = [] ∧ Own W0 w A) ∨
    ∃ g n cap sp, v = .slice (some ⟨g, 0, none⟩) n cap ∧ n ≤ cap ∧ cap ≤ maxLen ∧ xs.length = n * sz ∧ (xs ++ sp).length = cap * sz ∧ Own W0 w (pt g (cob (xs ++ sp) E) :: A) := by
  obtain ⟨ls, ⟨l1, l2, rfl, h1, hs⟩, hn, hb⟩ := h.owns
  rcases h1 with ⟨h1, h2, rfl⟩ | ⟨g, n, cap, sp, h1, h2, h3, h4, h5, rfl⟩
  · exact .inl ⟨h1, h2, h.os, h.tape, h.output, h.size, h.base, l2, hs, by simpa using hn, fun p hp => hb p (by simpa using hp)⟩
  · exact .inr ⟨g, n, cap, sp, h1, h2, h3, h4, h5, h.os, h.tape, h.output, h.size, h.base, _, ⟨_, l2, rfl, rfl, hs⟩, hn, hb⟩
theorem run_osl {K : Act → World → Prop} {E sz : Nat} {xs : List Value} (h0 : v = .slice none 0 0 → xs = [] → Run W0 N K e A)
    (h1 : ∀ g n cap sp, v = .slice (some ⟨g, 0, none⟩) n cap → n ≤ cap → cap ≤ maxLen → xs.length = n * sz → (xs ++ sp).length = cap * sz → Run W0 N K e (pt g (cob (xs ++ sp) E) :: A)) : Run W0 N K e (osl E sz v xs :: A) := fun a w hF hO => by
  rcases hO.osl with ⟨k1, k2, k3⟩ | ⟨g, n, cap, sp, k1, k2, k3, k4, k5, k6⟩
  · exact h0 k1 k2 a w hF k3
  · exact h1 g n cap sp k1 k2 k3 k4 k5 a w hF k6
theorem spec_osl {f : FuncId} {args : List Value} {Post : Value → List HP → Prop} {E sz : Nat} {xs : List Value} (h0 : v = .slice none 0 0 → xs = [] → Spec P W0 f args A Post)
    (h1 : ∀ g n cap sp, v = .slice (some ⟨g, 0, none⟩) n cap → n ≤ cap → cap ≤ maxLen → xs.length = n * sz → (xs ++ sp).length = cap * sz → Spec P W0 f args (pt g (cob (xs ++ sp) E) :: A) Post) : Spec P W0 f args (osl E sz v xs :: A) Post := fun w hO => by
  rcases hO.osl with ⟨k1, k2, k3⟩ | ⟨g, n, cap, sp, k1, k2, k3, k4, k5, k6⟩
  · exact h0 k1 k2 w k3
  · exact h1 g n cap sp k1 k2 k3 k4 k5 w k6
theorem ent_osl {E sz g n cap : Nat} {xs sp : List Value} [h : Tk pt g A (cob (xs ++ sp) E) R] (h1 : n ≤ cap) (h2 : cap ≤ maxLen) (h3 : xs.length = n * sz) (h4 : (xs ++ sp).length = cap * sz) [k : Ent R B] : Ent A (osl E sz (.slice (some ⟨g, 0, none⟩) n cap) xs :: B) :=
  (Ent.ofPerm h.perm).trans ((Ent.cons k).trans ⟨fun l hl => by
    obtain ⟨l1, l2, rfl, rfl, hs⟩ := hl
    exact ⟨_, [], ⟨_, l2, rfl, .inr ⟨g, n, cap, sp, rfl, h1, h2, h3, h4, rfl⟩, hs⟩, by simp⟩⟩)
theorem ent_osl_nil {E sz : Nat} [k : Ent A B] : Ent A (osl E sz (.slice none 0 0) [] :: B) :=
  k.trans ⟨fun l hl => ⟨l, [], ⟨[], l, rfl, .inl ⟨rfl, rfl, rfl⟩, hl⟩, by simp⟩⟩

/-- append(s, x...) to a slice of the call's own. -/
theorem d_append {E sz n m c cx by_ : Nat} {bx ox : Nat} {info : TypeInfo} {z : Value} {an : Option Addr} {xs news : List Value} (hu : P.underlying t = some (.slice E))
    (hi : P.info? E = some info) (hz : info.zero = some z) (hsz : info.size = sz) (hby : info.bytes = by_) (hz1 : z.cells.size = sz) (hsz0 : 0 < sz)
    (hx : ev e x = some (.slice an n c)) (hy : ev e y = some (.slice (some ⟨bx, ox, none⟩) m cx)) [h : Tk (osl E sz) (.slice an n c) A xs R]
    (hnew : Cells (OwnP W0 A) bx ox news) (hnl : news.length = m * sz) (h1 : allOne news = true) (h63 : n + m ≤ maxLen) (hbig : (n + m) * by_ ≤ 140737488355328) :
    Does P W0 N e A (.call { callee := .builtin .append, args := #[x, y], argTypes := #[t, t] }) (fun v B => ∃ a' c', v = .slice a' (n + m) c' ∧ B = osl E sz v (xs ++ news) :: R) := by
  intro a w dst ty pos af g K Q hF hO k
  have hO' := hO.tk (r := osl E sz) (b := .slice an n c)
  have hcell : ∀ j u, news[j]? = some u → w.cell? ((⟨bx, ox, none⟩ : Addr).add j) = some u := fun j u hj => by rw [add_none]; exact hnew j u hj w hO
  have hone : ∀ u ∈ news, u.oneCell' = true := fun u hm => by simpa [allOne] using List.all_eq_true.1 h1 u hm
  have hsmall : n + m ≤ 9223372036854775807 := by simp only [maxLen] at h63; omega
  suffices hh : ∃ a' c' w', (Builtin.append_ #[t, t] ty #[.slice an n c, .slice (some ⟨bx, ox, none⟩) m cx]).run P w = .ok (.slice a' (n + m) c') w' ∧ Own W0 w' (osl E sz (.slice a' (n + m) c') (xs ++ news) :: R) by
    obtain ⟨a', c', w', hrun, hown⟩ := hh
    unfold Oper.wp
    have hexec : (execOp a.eval { dst := dst, op := .call { callee := .builtin .append, args := #[x, y], argTypes := #[t, t] }, type := ty, pos := pos, after := af, guard := g }).run P w = .ok (.value (.slice a' (n + m) c')) w' := by
      simp only [execOp, resolve, invoke, builtin, Sem.run_bind, Sem.run_pure, Result.andThen_ok, List.map_toArray, List.map_cons, List.map_nil, hF.eval hx, hF.eval hy, hrun]
    rw [hexec]
    exact k _ w' _ ⟨a', c', rfl, rfl⟩ hown
  subst hsz
  subst hby
  rcases hO'.osl with ⟨k1, k2, k3⟩ | ⟨g, n', cap, sp, k1, k2, k3, k4, k5, k6⟩
  · cases k1; subst k2
    by_cases hm : m = 0
    · subst hm
      have hn : news = [] := List.eq_nil_of_length_eq_zero (by simpa using hnl)
      subst hn
      refine ⟨none, 0, w, ?_, k3.ent ent_osl_nil⟩
      simp [Builtin.append_, run_und hu, sizeOf, typeInfo, hi, Builtin.lenOf, Builtin.firstCells, loadCells, loadCellsFrom]
    · have hr := run_append_nil (P := P) w t ty E info z hu hi hz ⟨bx, ox, none⟩ m cx news hnl hcell (by omega) (by omega) (by have hb := hbig; simp only [Nat.zero_add] at hb; omega)
      refine ⟨_, _, _, by simpa using hr, ?_⟩
      have hge := grownCap_ge w m 0 E
      have hcm := grownCap_le_maxLen w m 0 E (by omega)
      have hnew' := (Own.drew k3 (w.drawn + 1)).new (cob (news ++ (Builtin.zeroCells z.cells (grownCap w m 0 E - m)).toList) E)
      have hw : (w.drew.alloc (.cells (news.toArray ++ Builtin.zeroCells z.cells (grownCap w m 0 E - m)) E)) = { ({ w with drawn := w.drawn + 1 } : World) with heap := w.heap.push (cob (news ++ (Builtin.zeroCells z.cells (grownCap w m 0 E - m)).toList) E) } := by
        have ea : (news ++ (Builtin.zeroCells z.cells (grownCap w m 0 E - m)).toList).toArray = news.toArray ++ Builtin.zeroCells z.cells (grownCap w m 0 E - m) := by apply Array.ext'; simp
        simp only [World.drew, World.alloc, cob, ea]
      rw [hw]
      refine hnew'.ent ?_
      have := @ent_osl (pt w.heap.size (cob (news ++ (Builtin.zeroCells z.cells (grownCap w m 0 E - m)).toList) E) :: R) R R E info.size w.heap.size m (grownCap w m 0 E) news _ _ hge hcm hnl (by rw [List.length_append, hnl]; simp only [Array.length_toList, size_zeroCells, hz1, ← Nat.add_mul]; congr 1; omega) _
      simpa using this
  · cases k1
    by_cases hroom : n + m ≤ c
    · have hfit : n * info.size + news.length ≤ ((xs ++ sp).toArray).size := by rw [hnl, List.size_toArray, k5, ← Nat.add_mul]; exact Nat.mul_le_mul_right _ hroom
      have hr := run_append_room (P := P) w t ty E info hu hi g n c (xs ++ sp).toArray k6.has.2 ⟨bx, ox, none⟩ m cx news hnl hcell hone hroom hfit
      refine ⟨_, _, _, hr, ?_⟩
      have hl : (xs ++ sp).toArray.toList.take (n * info.size) ++ news ++ (xs ++ sp).toArray.toList.drop (n * info.size + news.length) = xs ++ news ++ sp.drop news.length := by
        simp only [← k4]
        rw [List.take_left, ← List.drop_drop, List.drop_left]
      rw [hl]
      have hset : Own W0 (w.setRow g (xs ++ news ++ sp.drop news.length).toArray) (pt g (cob (xs ++ news ++ sp.drop news.length) E) :: R) :=
        k6.set rfl rfl rfl (by simp [World.setRow]) (setRow_heap w g _ _ E _ k6.has.2) (fun k hk => setRow_other w g k _ hk)
      refine hset.ent ?_
      have hspl : news.length ≤ sp.length := by
        have := k5; rw [List.length_append, k4] at this; rw [hnl]
        have h3 := Nat.mul_le_mul_right info.size hroom; rw [Nat.add_mul] at h3; omega
      exact @ent_osl _ R R E info.size g (n + m) c (xs ++ news) (sp.drop news.length) _ hroom k3 (by rw [List.length_append, k4, hnl, Nat.add_mul]) (by
        rw [← k5]; simp only [List.length_append, List.length_drop]; omega) _
    · have holds : ∀ j u, xs[j]? = some u → w.cell? ((⟨g, 0, none⟩ : Addr).add j) = some u := fun j u hj => by
        rw [add_none, Nat.zero_add]
        have := k6.has.2
        simp only [World.cell?, this, Option.isSome_none, Bool.false_eq_true, if_false]
        rw [List.getElem?_toArray, List.getElem?_append_left (by
          rcases Nat.lt_or_ge j xs.length with q | q
          · exact q
          · rw [List.getElem?_eq_none q] at hj; cases hj)]
        exact hj
      have hr := run_append_grow (P := P) w t ty E info z hu hi hz ⟨g, 0, none⟩ n c xs k4 holds ⟨bx, ox, none⟩ m cx news hnl hcell (by omega) (by omega) (growslice_fits (by omega) hbig)
      refine ⟨_, _, _, hr, ?_⟩
      have hge := grownCap_ge w (n + m) c E
      have hcm := grownCap_le_maxLen w (n + m) c E h63
      have hnew' := (Own.drew k6.drop (w.drawn + 1)).new (cob (xs ++ news ++ (Builtin.zeroCells z.cells (grownCap w (n + m) c E - (n + m))).toList) E)
      have hw : (w.drew.alloc (.cells (xs.toArray ++ news.toArray ++ Builtin.zeroCells z.cells (grownCap w (n + m) c E - (n + m))) E)) = { ({ w with drawn := w.drawn + 1 } : World) with heap := w.heap.push (cob (xs ++ news ++ (Builtin.zeroCells z.cells (grownCap w (n + m) c E - (n + m))).toList) E) } := by
        have ea : (xs ++ news ++ (Builtin.zeroCells z.cells (grownCap w (n + m) c E - (n + m))).toList).toArray = xs.toArray ++ news.toArray ++ Builtin.zeroCells z.cells (grownCap w (n + m) c E - (n + m)) := by apply Array.ext'; simp
        simp only [World.drew, World.alloc, cob, ea]
      rw [hw]
      refine hnew'.ent ?_
      exact @ent_osl _ R R E info.size w.heap.size (n + m) (grownCap w (n + m) c E) (xs ++ news) _ _ hge hcm (by rw [List.length_append, k4, hnl, Nat.add_mul]) (by
        rw [List.length_append, List.length_append, k4, hnl]; simp only [Array.length_toList, size_zeroCells, hz1, ← Nat.add_mul]; congr 1; omega) _

/-- A whole block's cells. -/
theorem cells_all [h : Tk pt b A (cob l ty) R] : Cells (OwnP W0 A) b 0 l := cells_own (by simp)

/-- The elements of a literal, each of k cells. -/
def ElsK (k : Nat) (e : Env) : Nat → List (Nat × Operand) → List (List Value) → Prop
  | _, [], [] => True
  | i, (j, x) :: ps, r :: rs => j = i ∧ ev e x = some (.agg r.toArray) ∧ r.length = k ∧ ElsK k e (i + 1) ps rs
  | _, _, _ => False
theorem elsK_nil {k i : Nat} : ElsK k e i [] [] := trivial
theorem elsK_cons {k i : Nat} {ps : List (Nat × Operand)} {r : List Value} {rs : List (List Value)} (h : ev e x = some (.agg r.toArray)) (hl : r.length = k) (hr : ElsK k e (i + 1) ps rs) : ElsK k e i ((i, x) :: ps) (r :: rs) := ⟨rfl, h, hl, hr⟩
theorem elsK_fill {a : Act} {k : Nat} (he : ∀ x v, ev e x = some v → a.eval x = v) : ∀ (ps : List (Nat × Operand)) (rs : List (List Value)) (done l : List Value) (i : Nat), done.length = i * k → ElsK k e i ps rs → l.length = rs.length * k →
    Instr.fill (fun i => some (i * k, k)) (done ++ l).toArray (ps.map fun (i, x) => (i, a.eval x)) = some (done ++ rs.flatten).toArray
  | [], [], done, l, i, _, _, hl => by
    have : l = [] := List.length_eq_zero_iff.1 (by simpa using hl)
    subst this; rfl
  | [], _ :: _, _, _, _, _, h, _ => h.elim
  | _ :: _, [], _, _, _, _, h, _ => by cases h
  | (j, x) :: ps, r :: rs, done, l, i, hd, h, hl => by
    obtain ⟨rfl, hx, h1, hr⟩ := h
    have hv := he x _ hx
    rw [List.length_cons, Nat.succ_mul] at hl
    have hc : ¬ (r.length ≠ k) := by omega
    have hc2 : ¬ (j * k + r.length > (done ++ l).length) := by rw [List.length_append]; omega
    simp only [List.map_cons, Instr.fill, hv, Value.cells, List.size_toArray, hc, hc2, decide_false, Bool.or_false, Bool.false_eq_true, if_false]
    rw [← hd, foldl_set, setR_eq _ _ _ (by rw [List.length_append]; omega), hd]
    have e1 : (done ++ l).take (j * k) ++ r ++ (done ++ l).drop (j * k + r.length) = (done ++ r) ++ l.drop k := by
      rw [← hd, List.take_left, ← List.drop_drop, List.drop_left, h1]
    rw [e1, elsK_fill he ps rs (done ++ r) (l.drop k) (j + 1) (by rw [List.length_append, hd, h1, Nat.succ_mul]) hr (by rw [List.length_drop]; omega)]
    simp

theorem d_sliceAgg {E n k : Nat} {z : List Value} {ps : Array (Nat × Operand)} {rs : List (List Value)} (hu : P.underlying t = some (.slice E)) (hs : ∀ w, (sizeOf E).run P w = .ok k w) (hz : ∀ w, (zeroValue E).run P w = .ok (.agg z.toArray) w) (hzl : z.length = k)
    (hel : ElsK k e 0 ps.toList rs) (hn : rs.length = n) (hn0 : n ≠ 0) (hk0 : k ≠ 0) (hn2 : n * k ≤ 100000) :
    Does P W0 N e A (.buildSlice t n ps) (fun v B => ∃ b, v = .slice (some ⟨b, 0, none⟩) n n ∧ B = pt b (cob rs.flatten E) :: A) :=
  d_new (g := fun b => .slice (some ⟨b, 0, none⟩) n n) (fun a w _ _ _ _ _ hF _ => by
    have hfl := elsK_fill (k := k) (fun x v h => hF.eval h) ps.toList rs [] ((Array.range (n * k)).map (z.toArray[· % z.toArray.size]!)).toList 0 (by simp) hel (by simp [hn])
    simp only [List.nil_append, Array.toArray_toList] at hfl
    have hbig : ¬ (n * k > 2 ^ 24) := by omega
    have hn1 : ¬ (n * k = 0) := by rw [Nat.mul_eq_zero]; omega
    simp only [execOp, Instr.buildSlice, Sem.run_bind, run_und hu, Result.andThen_ok, hs, Array.toList_map, Sem.run_ite, if_neg hbig, if_neg hn1, hz, Sem.run_pure, Value.cells]
    rw [hfl]
    rfl)

/-- Two chunks in front. -/
theorem perm2 {K1 K2 X1 X2 : Type} {r1 : K1 → X1 → HP} {b1 : K1} {x1 : X1} {R1 : List HP} {r2 : K2 → X2 → HP} {b2 : K2} {x2 : X2} [h1 : Tk r1 b1 A x1 R1] [h2 : Tk r2 b2 R1 x2 R] : A.Perm (r1 b1 x1 :: r2 b2 x2 :: R) := h1.perm.trans (h2.perm.cons _)
theorem perm1 {K1 X1 : Type} {r1 : K1 → X1 → HP} {b1 : K1} {x1 : X1} [h1 : Tk r1 b1 A x1 R] : A.Perm (r1 b1 x1 :: R) := h1.perm
theorem d_invoke2 {K1 K2 X1 X2 : Type} {r1 : K1 → X1 → HP} {b1 : K1} {x1 : X1} {R1 : List HP} {r2 : K2 → X2 → HP} {b2 : K2} {x2 : X2} {recv : Operand} {nm : String} {xs : Array Operand} {ats : Array TypeId} {T : TypeId} {rv rv' : Value} {f : FuncId} {Post : Value → List HP → Prop} (hr : ev e recv = some (.iface T rv))
    (hm : ∀ w, (method (P.types.size + Made.depth) T rv nm).run P w = .ok (f, rv') w) (hc : ∀ args w, (callFunc f args).run P w = .ok (.enter f args) w) (hx : evs e xs.toList = some vs)
    (hs : Spec P W0 f (rv' :: vs) (r1 b1 x1 :: r2 b2 x2 :: R) Post) [h1 : Tk r1 b1 A x1 R1] [h2 : Tk r2 b2 R1 x2 R] : Does P W0 N e A (.call { callee := .invoke recv nm, args := xs, argTypes := ats }) Post :=
  does_perm perm2 (d_invoke hr hm hc hx hs)
theorem d_invoke1 {K1 X1 : Type} {r1 : K1 → X1 → HP} {b1 : K1} {x1 : X1} {recv : Operand} {nm : String} {xs : Array Operand} {ats : Array TypeId} {T : TypeId} {rv rv' : Value} {f : FuncId} {Post : Value → List HP → Prop} (hr : ev e recv = some (.iface T rv))
    (hm : ∀ w, (method (P.types.size + Made.depth) T rv nm).run P w = .ok (f, rv') w) (hc : ∀ args w, (callFunc f args).run P w = .ok (.enter f args) w) (hx : evs e xs.toList = some vs)
    (hs : Spec P W0 f (rv' :: vs) (r1 b1 x1 :: R) Post) [h1 : Tk r1 b1 A x1 R] : Does P W0 N e A (.call { callee := .invoke recv nm, args := xs, argTypes := ats }) Post :=
  does_perm perm1 (d_invoke hr hm hc hx hs)

theorem d_callv1 {K1 X1 : Type} {r1 : K1 → X1 → HP} {b1 : K1} {x1 : X1} {fx : Operand} {xs : Array Operand} {ats : Array TypeId} {f : FuncId} {us cs : List Value} {Post : Value → List HP → Prop} (hf : ev e fx = some (.func (.func f) us.toArray cs.toArray))
    (hc : ∀ args w, (callFunc f args).run P w = .ok (.enter f args) w) (hx : evs e xs.toList = some vs) (hs : Spec P W0 f (us ++ vs ++ cs) (r1 b1 x1 :: R) Post) [h1 : Tk r1 b1 A x1 R] : Does P W0 N e A (.call { callee := .value fx, args := xs, argTypes := ats }) Post :=
  does_perm perm1 (d_callv hf hc hx hs)
theorem d_callv2 {K1 K2 X1 X2 : Type} {r1 : K1 → X1 → HP} {b1 : K1} {x1 : X1} {R1 : List HP} {r2 : K2 → X2 → HP} {b2 : K2} {x2 : X2} {fx : Operand} {xs : Array Operand} {ats : Array TypeId} {f : FuncId} {us cs : List Value} {Post : Value → List HP → Prop} (hf : ev e fx = some (.func (.func f) us.toArray cs.toArray))
    (hc : ∀ args w, (callFunc f args).run P w = .ok (.enter f args) w) (hx : evs e xs.toList = some vs) (hs : Spec P W0 f (us ++ vs ++ cs) (r1 b1 x1 :: r2 b2 x2 :: R) Post) [h1 : Tk r1 b1 A x1 R1] [h2 : Tk r2 b2 R1 x2 R] : Does P W0 N e A (.call { callee := .value fx, args := xs, argTypes := ats }) Post :=
  does_perm perm2 (d_callv hf hc hx hs)

/-! ### A chunk that holds other chunks, which are not all said -/
def chk (F : List HP → Prop) : HP := fun l => ∃ C, F C ∧ Sat C l
theorem Own.chk {F : List HP → Prop} {w : World} (h : Own W0 w (chk F :: R)) : ∃ C, F C ∧ Own W0 w (C ++ R) := by
  obtain ⟨ls, ⟨l1, l2, rfl, ⟨C, hC, h1⟩, hs⟩, hn, hb⟩ := h.owns
  exact ⟨C, hC, h.os, h.tape, h.output, h.size, h.base, _, Sat.append.2 ⟨l1, l2, rfl, h1, hs⟩, hn, hb⟩
theorem ent_chk {F : List HP → Prop} {C : List HP} (h : F C) : Ent (C ++ R) (chk F :: R) := ⟨fun l hl => by
  obtain ⟨l1, l2, rfl, h1, h2⟩ := Sat.append.1 hl
  exact ⟨l1 ++ l2, [], ⟨l1, l2, rfl, ⟨C, h, h1⟩, h2⟩, by simp⟩⟩
theorem run_chk {K : Act → World → Prop} {F : List HP → Prop} (h : ∀ C, F C → Run W0 N K e (C ++ R)) : Run W0 N K e (chk F :: R) := fun a w hF hO => by
  obtain ⟨C, hC, hO'⟩ := hO.chk
  exact h C hC a w hF hO'
theorem spec_chk {f : FuncId} {args : List Value} {Post : Value → List HP → Prop} {F : List HP → Prop} (h : ∀ C, F C → Spec P W0 f args (C ++ R) Post) : Spec P W0 f args (chk F :: R) Post := fun w hO => by
  obtain ⟨C, hC, hO'⟩ := hO.chk
  exact h C hC w hO'
theorem spec_post {f : FuncId} {args : List Value} {Post Post' : Value → List HP → Prop} (h : Spec P W0 f args A Post) (k : ∀ v B, Post v B → ∃ B', Post' v B' ∧ Ent B B') : Spec P W0 f args A Post' := fun w hO =>
  (h w hO).mono fun e w' ⟨v, B, h1, h2, h3⟩ => by
    obtain ⟨B', h4, h5⟩ := k v B h2
    exact ⟨v, B', h1, h4, h3.ent h5⟩
theorem run_tk {K X : Type} {r : K → X → HP} {b : K} {x : X} {Kt : Act → World → Prop} [h : Tk r b A x R] (k : Run W0 N Kt e (r b x :: R)) : Run W0 N Kt e A := run_perm h.perm k
theorem spec_perm {f : FuncId} {args : List Value} {Post : Value → List HP → Prop} (hp : A.Perm B) (h : Spec P W0 f args B Post) : Spec P W0 f args A Post := fun w hO => h w (hO.perm hp)
end
end Go.Proofs.YteolepiendmhlaaGreatDoor
