/-
  Arrays compared, and the copy of a text. Nothing of one program stands here.
-/
import Derived.Test.YteolepiendmhlaaGreatDoorKit
import Derived.ChangeKeysEq
namespace Go.Proofs.YteolepiendmhlaaGreatDoor
open Go.RowKit
set_option linter.unusedSimpArgs false
set_option linter.unusedVariables false

section
variable {P : Program} {S : World → Prop} {W0 : World} {N : FSz} {e : Env} {A R : List HP} {t t' ty : TypeId} {b off : Nat} {x y : Operand} {l l' : List Value}
theorem eqItems_ints {E : TypeId} {k k' : IntKind} (ha : ∀ w, (isAgg E).run P w = .ok false w) (he : P.underlying E = some (.int k')) (D : Nat) (w : World) :
    ∀ (m s : Nat) (ms ns : List Int), ms.length = s + m → ns.length = s + m →
      (Op.eqItems (D + 1) E 1 (ms.map (Value.int k)).toArray (ns.map (Value.int k)).toArray (List.range' s m)).run P w = .ok (ms.drop s == ns.drop s) w
  | 0, s, ms, ns, h1, h2 => by
    rw [show ms.drop s = [] from List.drop_eq_nil_of_le (by omega), show ns.drop s = [] from List.drop_eq_nil_of_le (by omega)]
    simp [Op.eqItems]
  | m + 1, s, ms, ns, h1, h2 => by
    have e1 : (ms.map (Value.int k))[s]? = some (.int k ms[s]) := by simp [show s < ms.length by omega]
    have e2 : (ns.map (Value.int k))[s]? = some (.int k ns[s]) := by simp [show s < ns.length by omega]
    have d1 : ms.drop s = ms[s] :: ms.drop (s + 1) := List.drop_eq_getElem_cons (by omega)
    have d2 : ns.drop s = ns[s] :: ns.drop (s + 1) := List.drop_eq_getElem_cons (by omega)
    have ih := eqItems_ints (k := k) ha he D w m (s + 1) ms ns (by omega) (by omega)
    rw [List.range'_succ, d1, d2]
    simp only [Op.eqItems, Nat.mul_one, Sem.run_bind, part_scal ha e1 w, part_scal ha e2 w, Result.andThen_ok, run_equalIn_int w D E k k' _ _ he]
    by_cases h : ms[s] = ns[s]
    · have hb3 : ((ns[s] :: ms.drop (s + 1)) == (ns[s] :: ns.drop (s + 1))) = (ms.drop (s + 1) == ns.drop (s + 1)) := by
        rw [Bool.eq_iff_iff, beq_iff_eq, beq_iff_eq]
        exact ⟨fun q => (List.cons.inj q).2, fun q => by rw [q]⟩
      rw [h, hb3]
      simp only [beq_self_eq_true, Bool.not_true, Bool.false_eq_true, if_false]
      exact ih
    · have hb : (ms[s] == ns[s]) = false := by simpa using h
      rw [hb]
      have hb2 : ((ms[s] :: ms.drop (s + 1)) == (ns[s] :: ns.drop (s + 1))) = false := by
        rw [← Bool.not_eq_true, beq_iff_eq]
        intro q
        exact h (List.cons.inj q).1
      rw [hb2]
      simp
theorem q_arrI {E n z : Nat} {k k' : IntKind} {i : TypeInfo} {ms ns : List Int} {us vs : List Value} (hu : P.underlying t = some (.array n E)) (hi : P.info? E = some i) (hc : P.cellsOf E = 1) (he : P.underlying E = some (.int k')) (ha : ∀ w, (isAgg E).run P w = .ok false w)
    (h1 : us = ms.map (Value.int k)) (h2 : vs = ns.map (Value.int k)) (l1 : ms.length = n) (l2 : ns.length = n) : EqN P (z + 2) t (.agg us.toArray) (.agg vs.toArray) (ms == ns) := fun d w => by
  subst h1; subst h2
  rw [show d + (z + 2) = (d + z + 1) + 1 by omega, run_equalIn_array w (d + z + 1) _ _ hu hi, hc, List.range_eq_range', eqItems_ints ha he (d + z) w n 0 ms ns (by omega) (by omega)]
  simp
/-- p[l:h] of an array that p points to. -/
theorem v_sliceArrLH {E n sz i h o' : Nat} {k k' : IntKind} {j1 j2 : Int} (hu : P.underlying t = some (.array n E)) (hs : ∀ w, (sizeOf E).run P w = .ok sz w) (hx : ev e x = some (.pointer (some ⟨b, off, none⟩))) {lo hi : Operand} (h1 : ev e lo = some (.int k j1)) (h2 : ev e hi = some (.int k' j2)) (e1 : j1 = (i : Int)) (e2 : j2 = (h : Int)) (hih : i ≤ h) (hhn : h ≤ n) (hin : i < n) (ho : off + i * sz = o') :
    Val P S N e (.slice t x (some lo) (some hi) none) (.slice (some ⟨b, o', none⟩) (h - i) (n - i)) := fun a w _ _ _ _ _ hF _ => by
  subst e1; subst e2; subst ho
  have hmi : ¬ n = i := by omega
  simp [execOp, Instr.sliceAt, hF.eval hx, hF.eval h1, hF.eval h2, run_und hu, Instr.sureAddr, Instr.sliceBounds, run_bound hhn, run_bound hih, hs, hmi, add_none]
/-- A slice's array. -/
theorem v_toArr {E n m c : Nat} {a : Option Addr} (hu : P.underlying t = some (.array n E)) (hx : ev e x = some (.slice a m c)) (hn : ¬ m < n) : Val P S N e (.sliceToArrayPointer t x) (.pointer a) := fun act w _ _ _ _ _ hF _ => by
  simp [execOp, hF.eval hx, Instr.arrayAt, run_und hu, hn]
theorem cells_midA {S : World → Prop} {b off n j : Nat} {l vs : List Value} (h : Cells S b off l) (hv : (l.drop j).take n = vs) : Cells S b (off + j) vs := fun i v hi => by
  subst hv
  rw [List.getElem?_take] at hi
  split at hi
  · rw [List.getElem?_drop] at hi
    rw [Nat.add_assoc]
    exact h (j + i) v hi
  · cases hi
/-- copy(dst, text) -/
theorem d_copyStr {E sz dn dc m : Nat} {s : ByteArray} (hu : P.underlying t = some (.slice E)) (hs : ∀ w, (sizeOf E).run P w = .ok sz w) (hx : ev e x = some (.slice (some ⟨b, off, none⟩) dn dc)) (hy : ev e y = some (.string s))
    [h : Tk pt b A (cob l ty) R] (hm : Nat.min s.size dn = m) (ho : off + m ≤ l.length) (hr : setR l off ((s.data.toList.take m).map fun b => Value.int .u8 b.toNat) = l') :
    Does P W0 N e A (.call { callee := .builtin .copy, args := #[x, y], argTypes := #[t, t'] }) (fun v B => v = .int .i64 m ∧ B = pt b (cob l' ty) :: R) := by
  intro a w dst ty' pos af g K Q hF hO k
  have hO' := hO.tk (r := pt) (b := b)
  have hml : m ≤ s.data.toList.length := by
    have : m ≤ s.size := by rw [← hm]; exact Nat.min_le_left ..
    exact this
  have hcells : ((s.extract 0 m).data.map fun b => Value.int .u8 b.toNat).toList = (s.data.toList.take m).map fun b => Value.int .u8 b.toNat := by
    simp [ByteArray.data_extract, List.extract_eq_take_drop]
  obtain ⟨w', hst, hO''⟩ := storeCells_own (P := P) (off := off) ((s.data.toList.take m).map fun b => Value.int .u8 b.toNat) 0 hO' (by rw [List.length_map, List.length_take]; omega) (fun v hv => by
    obtain ⟨q, _, rfl⟩ := List.mem_map.1 hv; rfl)
  rw [Nat.add_zero, hr] at hO''
  have hexec : (execOp a.eval { dst := dst, op := .call { callee := .builtin .copy, args := #[x, y], argTypes := #[t, t'] }, type := ty', pos := pos, after := af, guard := g }).run P w = .ok (.value (.int .i64 m)) w' := by
    simp only [execOp, resolve, invoke, builtin, Sem.run_bind, Sem.run_pure, Result.andThen_ok, List.map_toArray, List.map_cons, List.map_nil, hF.eval hx, hF.eval hy, Builtin.copy_, Builtin.lenOf, Builtin.firstCells, run_und hu, hs]
    have hs' : (sizeOf E).run P w = .ok sz w := hs w
    simp only [hm, Array.getElem?_eq_getElem, List.getElem?_toArray, List.getElem?_cons_zero, List.getElem?_cons_succ, Sem.run_bind, Sem.run_pure, Result.andThen_ok, run_und hu, hs', hcells, hst, goInt]
  unfold Oper.wp
  rw [hexec]
  exact k _ w' _ ⟨rfl, rfl⟩ hO''
end
end Go.Proofs.YteolepiendmhlaaGreatDoor
