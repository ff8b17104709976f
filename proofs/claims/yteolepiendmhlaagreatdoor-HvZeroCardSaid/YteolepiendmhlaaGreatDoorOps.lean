/-
  What one operation of the model does, as rules over what is known of the frame and of memory. Nothing of one program stands here.
-/
import Derived.Test.YteolepiendmhlaaGreatDoorSl
namespace Go.Proofs.YteolepiendmhlaaGreatDoor
open Go.RowKit

/-! ### Operations that give a value and leave the world alone -/

/-- Worlds in which this is owned. -/
def OwnP (W0 : World) (A : List HP) : World → Prop := fun w => Own W0 w A

/-- The operation gives v, in every world of S. -/
def Val (P : Program) (S : World → Prop) (N : FSz) (e : Env) (op : Op) (v : Value) : Prop :=
  ∀ a w dst ty pos af g, Fr a N e → S w → (execOp a.eval { dst := dst, op := op, type := ty, pos := pos, after := af, guard := g }).run P w = .ok (.value v) w

section
variable {rd : Option Nat} {P : Program} {W0 : World} {N : FSz} {Q : Exit → Act → World → Prop} {e : Env} {A : List HP} {ops : Array Oper} {rest : List Oper}
variable {op : Op} {ty : TypeId} {pos : String} {af : Array Edge} {v : Value} {d : Nat}

theorem Act.put_none (a : Act) (v : Value) : a.put none v = a := rfl

theorem wanted_none {dst : Option Tmp} {y : Nat → Option Bool} : Region.wanted { dst := dst, op := op, type := ty, pos := pos, after := af, guard := none } y = true := rfl

theorem s_val (hd : Nat.blt d N.n = true) (hv : Val P (OwnP W0 A) N e op v) (k : Run W0 N (wpL rd P ops Q rest) ((d, v) :: e) A) :
    Run W0 N (wpL rd P ops Q ({ dst := some d, op := op, type := ty, pos := pos, after := af, guard := none } :: rest)) e A := by
  intro a w hF hO
  simp only [wpL, wanted_none, if_true]
  refine .inl ?_
  unfold Oper.wp
  rw [hv a w _ _ _ _ _ hF hO]
  exact k _ _ (hF.put (Nat.lt_of_lt_of_le (Nat.lt_of_succ_le (Nat.le_of_ble_eq_true hd)) (Nat.le_refl _)) v) hO

theorem s_val0 (hv : Val P (OwnP W0 A) N e op v) (k : Run W0 N (wpL rd P ops Q rest) e A) :
    Run W0 N (wpL rd P ops Q ({ dst := none, op := op, type := ty, pos := pos, after := af, guard := none } :: rest)) e A := by
  intro a w hF hO
  simp only [wpL, wanted_none, if_true]
  refine .inl ?_
  unfold Oper.wp
  rw [hv a w _ _ _ _ _ hF hO]
  exact k _ _ hF hO

/-- What a guard looks at. -/
def gtmp (ops : Array Oper) (j : Nat) : Option Nat := (ops[j]?).bind (·.dst)

theorem yielded_of {ops : Array Oper} {j t : Nat} {b : Bool} {a : Act} (ht : gtmp ops j = some t) (hv : a.tmps[t]? = some (.bool b)) : yielded ops a.tmps j = some b := by
  unfold gtmp at ht
  simp only [yielded]
  cases hj : ops[j]? with
  | none => rw [hj] at ht; cases ht
  | some o =>
    rw [hj] at ht
    simp only [Option.bind_some] at ht
    simp only [Option.bind_some, ht, hv]

/-- A guarded operation: it is done, or its slot is as nobody wrote it. -/
theorem s_guard {j t : Nat} {want b : Bool} {dst : Option Tmp} (ht : gtmp ops j = some t) (hv : get? e t = some (.bool b)) (hd : (match dst with | some d => Nat.blt d N.n | none => true) = true)
    (h1 : b = want → Run W0 N (wpL rd P ops Q ({ dst := dst, op := op, type := ty, pos := pos, after := af, guard := none } :: rest)) ((t, .bool want) :: e) A)
    (h2 : b = !want → Run W0 N (wpL rd P ops Q rest) (match dst with | some d => (d, undef) :: (t, .bool !want) :: e | none => (t, .bool !want) :: e) A) :
    Run W0 N (wpL rd P ops Q ({ dst := dst, op := op, type := ty, pos := pos, after := af, guard := some (j, want) } :: rest)) e A := by
  intro a w hF hO
  have hy := yielded_of ht (hF.at_ t _ hv)
  by_cases hb : b = want
  · have h := h1 hb a w (hF.sub (sub_cons (hb ▸ hv) sub_refl)) hO
    simp only [wpL, wanted_none, if_true] at h
    have hw : Region.wanted { dst := dst, op := op, type := ty, pos := pos, after := af, guard := some (j, want) } (yielded ops a.tmps) = true := by
      simp [Region.wanted, hy, hb]
    simp only [wpL, hw, if_true]
    exact h
  · have hb' : b = !want := by cases b <;> cases want <;> simp_all
    have hw : Region.wanted { dst := dst, op := op, type := ty, pos := pos, after := af, guard := some (j, want) } (yielded ops a.tmps) = false := by
      simp [Region.wanted, hy, hb']
    simp only [wpL, hw, Bool.false_eq_true, if_false]
    have hF' := hF.sub (sub_cons (t := t) (v := .bool !want) (hb' ▸ hv) sub_refl)
    cases dst with
    | none => exact h2 hb' a w hF' hO
    | some d => exact h2 hb' _ w (hF'.put (Nat.lt_of_succ_le (Nat.le_of_ble_eq_true hd)) undef) hO

/-- A guarded operation whose guard is known to say yes. -/
theorem s_yes {j t : Nat} {want : Bool} {dst : Option Tmp} (ht : gtmp ops j = some t) (hv : get? e t = some (.bool want))
    (h : Run W0 N (wpL rd P ops Q ({ dst := dst, op := op, type := ty, pos := pos, after := af, guard := none } :: rest)) e A) :
    Run W0 N (wpL rd P ops Q ({ dst := dst, op := op, type := ty, pos := pos, after := af, guard := some (j, want) } :: rest)) e A := by
  intro a w hF hO
  have hy := yielded_of ht (hF.at_ t _ hv)
  have h := h a w hF hO
  simp only [wpL, wanted_none, if_true] at h
  have hw : Region.wanted { dst := dst, op := op, type := ty, pos := pos, after := af, guard := some (j, want) } (yielded ops a.tmps) = true := by
    simp [Region.wanted, hy]
  simp only [wpL, hw, if_true]
  exact h
/-- A guarded operation whose guard was not done itself. -/
theorem s_nou {j t : Nat} {want : Bool} (ht : gtmp ops j = some t) (hv : get? e t = some undef) (hd : Nat.blt d N.n = true)
    (h : Run W0 N (wpL rd P ops Q rest) ((d, undef) :: e) A) :
    Run W0 N (wpL rd P ops Q ({ dst := some d, op := op, type := ty, pos := pos, after := af, guard := some (j, want) } :: rest)) e A := by
  intro a w hF hO
  have hy : yielded ops a.tmps j = none := by
    have hv' := hF.at_ t _ hv
    unfold gtmp at ht
    simp only [yielded]
    cases hj : ops[j]? with
    | none => rw [hj] at ht; cases ht
    | some o =>
      rw [hj] at ht
      simp only [Option.bind_some] at ht
      simp only [Option.bind_some, ht, hv']
      rfl
  have hw : Region.wanted { dst := some d, op := op, type := ty, pos := pos, after := af, guard := some (j, want) } (yielded ops a.tmps) = false := by
    simp [Region.wanted, hy]
  simp only [wpL, hw, Bool.false_eq_true, if_false]
  exact h _ w (hF.put (Nat.lt_of_succ_le (Nat.le_of_ble_eq_true hd)) undef) hO
/-- A guarded operation whose guard is known to say no. -/
theorem s_no {j t : Nat} {want b : Bool} (ht : gtmp ops j = some t) (hv : get? e t = some (.bool b)) (hb : Bool.xor b want = true) (hd : Nat.blt d N.n = true)
    (h : Run W0 N (wpL rd P ops Q rest) ((d, undef) :: e) A) :
    Run W0 N (wpL rd P ops Q ({ dst := some d, op := op, type := ty, pos := pos, after := af, guard := some (j, want) } :: rest)) e A := by
  intro a w hF hO
  have hy := yielded_of ht (hF.at_ t _ hv)
  have hw : Region.wanted { dst := some d, op := op, type := ty, pos := pos, after := af, guard := some (j, want) } (yielded ops a.tmps) = false := by
    cases b <;> cases want <;> simp_all [Region.wanted]
  simp only [wpL, hw, Bool.false_eq_true, if_false]
  exact h _ w (hF.put (Nat.lt_of_succ_le (Nat.le_of_ble_eq_true hd)) undef) hO
end

section
variable {rd : Option Nat} {P : Program} {S : World → Prop} {N : FSz} {e : Env} {x y c : Operand} {v u : Value} {t t' : TypeId} {k k' : IntKind} {m n r : Int}

theorem v_move (h : ev e x = some v) : Val P S N e (.move x) v := fun a w _ _ _ _ _ hF _ => by
  rw [← hF.eval h]; rfl
theorem v_assign (h : ev e x = some v) : Val P S N e (.assign x) v := fun a w _ _ _ _ _ hF _ => by
  rw [← hF.eval h]; rfl
theorem v_pick_t (hc : ev e c = some (.bool true)) (h : ev e x = some v) : Val P S N e (.pick c x y) v := fun a w _ _ _ _ _ hF _ => by
  simp [execOp, hF.eval hc, hF.eval h, asBool]
theorem v_pick_f (hc : ev e c = some (.bool false)) (h : ev e y = some v) : Val P S N e (.pick c x y) v := fun a w _ _ _ _ _ hF _ => by
  simp [execOp, hF.eval hc, hF.eval h, asBool]

theorem binVal {op : BinOp} (hx : ev e x = some u) (hy : ev e y = some v) {r : Value} (hg : ∀ w x y, (eqGuard op t x y u v).run P w = .ok () w)
    (h : ∀ w, (binOp op t u v).run P w = .ok r w) : Val P S N e (.binOp op t x y t') r := fun a w _ _ _ _ _ hF _ => by
  simp only [execOp, hF.eval hx, hF.eval hy, Sem.run_bind, hg, Result.andThen_ok, h, Sem.run_pure]

theorem eqGuard_int {op : BinOp} (w : World) (x y : Operand) : (eqGuard op t x y (.int k m) (.int k' n)).run P w = .ok () w := by
  cases op <;> simp [eqGuard]
theorem eqGuard_bool {op : BinOp} {p q : Bool} (w : World) (x y : Operand) : (eqGuard op t x y (.bool p) (.bool q)).run P w = .ok () w := by
  cases op <;> simp [eqGuard]
theorem eqGuard_str {op : BinOp} {p q : ByteArray} (w : World) (x y : Operand) : (eqGuard op t x y (.string p) (.string q)).run P w = .ok () w := by
  cases op <;> simp [eqGuard]
theorem eqGuard_ptr {op : BinOp} {p q : Option Addr} (w : World) (x y : Operand) : (eqGuard op t x y (.pointer p) (.pointer q)).run P w = .ok () w := by
  cases op <;> simp [eqGuard]

theorem v_add (hx : ev e x = some (.int k m)) (hy : ev e y = some (.int k n)) (hw : k.wrap (m + n) = r) : Val P S N e (.binOp .add t x y t') (.int k r) :=
  binVal hx hy eqGuard_int fun w => by simp [binOp, Op.intArith, hw]
theorem v_sub (hx : ev e x = some (.int k m)) (hy : ev e y = some (.int k n)) (hw : k.wrap (m - n) = r) : Val P S N e (.binOp .sub t x y t') (.int k r) :=
  binVal hx hy eqGuard_int fun w => by simp [binOp, Op.intArith, hw]
theorem v_mul (hx : ev e x = some (.int k m)) (hy : ev e y = some (.int k n)) (hw : k.wrap (m * n) = r) : Val P S N e (.binOp .mul t x y t') (.int k r) :=
  binVal hx hy eqGuard_int fun w => by simp [binOp, Op.intArith, hw]
theorem v_quo (hx : ev e x = some (.int k m)) (hy : ev e y = some (.int k n)) (hn : n ≠ 0) (hw : k.wrap (m.tdiv n) = r) : Val P S N e (.binOp .quo t x y t') (.int k r) :=
  binVal hx hy eqGuard_int fun w => by simp [binOp, Op.intDiv, hw, hn]
theorem v_rem (hx : ev e x = some (.int k m)) (hy : ev e y = some (.int k n)) (hn : n ≠ 0) (hw : m.tmod n = r) : Val P S N e (.binOp .rem t x y t') (.int k r) :=
  binVal hx hy eqGuard_int fun w => by simp [binOp, Op.intDiv, hw, hn]
/-- Bits of two numbers. -/
def bAnd (k : IntKind) (m n : Int) : Int := k.wrap (BitVec.ofInt k.bits m &&& BitVec.ofInt k.bits n).toNat
def bOr (k : IntKind) (m n : Int) : Int := k.wrap (BitVec.ofInt k.bits m ||| BitVec.ofInt k.bits n).toNat
def bXor (k : IntKind) (m n : Int) : Int := k.wrap (BitVec.ofInt k.bits m ^^^ BitVec.ofInt k.bits n).toNat
def bAndNot (k : IntKind) (m n : Int) : Int := k.wrap (BitVec.ofInt k.bits m &&& ~~~ BitVec.ofInt k.bits n).toNat
theorem v_and (hx : ev e x = some (.int k m)) (hy : ev e y = some (.int k n)) (hw : bAnd k m n = r) : Val P S N e (.binOp .and t x y t') (.int k r) :=
  binVal hx hy eqGuard_int fun w => by rw [← hw]; simp [binOp, Op.intBits, bAnd]
theorem v_or (hx : ev e x = some (.int k m)) (hy : ev e y = some (.int k n)) (hw : bOr k m n = r) : Val P S N e (.binOp .or t x y t') (.int k r) :=
  binVal hx hy eqGuard_int fun w => by rw [← hw]; simp [binOp, Op.intBits, bOr]
theorem v_xor (hx : ev e x = some (.int k m)) (hy : ev e y = some (.int k n)) (hw : bXor k m n = r) : Val P S N e (.binOp .xor t x y t') (.int k r) :=
  binVal hx hy eqGuard_int fun w => by rw [← hw]; simp [binOp, Op.intBits, bXor]
theorem v_andNot (hx : ev e x = some (.int k m)) (hy : ev e y = some (.int k n)) (hw : bAndNot k m n = r) : Val P S N e (.binOp .andNot t x y t') (.int k r) :=
  binVal hx hy eqGuard_int fun w => by rw [← hw]; simp [binOp, Op.intBits, bAndNot]
def bShl (k : IntKind) (m n : Int) : Int := k.wrap (m * 2 ^ (min n.toNat k.bits))
def bShr (k : IntKind) (m n : Int) : Int := m.fdiv (2 ^ (min n.toNat k.bits))
theorem v_shl (hx : ev e x = some (.int k m)) (hy : ev e y = some (.int k' n)) (hn : 0 ≤ n) (hw : bShl k m n = r) : Val P S N e (.binOp .shl t x y t') (.int k r) :=
  binVal hx hy eqGuard_int fun w => by
    have : ¬ n < 0 := by omega
    rw [← hw]; simp [binOp, Op.shift, this, bShl]
theorem v_shr (hx : ev e x = some (.int k m)) (hy : ev e y = some (.int k' n)) (hn : 0 ≤ n) (hw : bShr k m n = r) : Val P S N e (.binOp .shr t x y t') (.int k r) :=
  binVal hx hy eqGuard_int fun w => by
    have : ¬ n < 0 := by omega
    rw [← hw]; simp [binOp, Op.shift, this, bShr]
theorem v_eql (hx : ev e x = some (.int k m)) (hy : ev e y = some (.int k n)) : Val P S N e (.binOp .eql t x y t') (.bool (m == n)) :=
  binVal hx hy eqGuard_int fun w => by simp [binOp, Op.intCmp]
theorem v_neq (hx : ev e x = some (.int k m)) (hy : ev e y = some (.int k n)) : Val P S N e (.binOp .neq t x y t') (.bool (m != n)) :=
  binVal hx hy eqGuard_int fun w => by simp [binOp, Op.intCmp]
theorem v_lss (hx : ev e x = some (.int k m)) (hy : ev e y = some (.int k n)) : Val P S N e (.binOp .lss t x y t') (.bool (decide (m < n))) :=
  binVal hx hy eqGuard_int fun w => by simp [binOp, Op.intCmp]
theorem v_leq (hx : ev e x = some (.int k m)) (hy : ev e y = some (.int k n)) : Val P S N e (.binOp .leq t x y t') (.bool (decide (m ≤ n))) :=
  binVal hx hy eqGuard_int fun w => by simp [binOp, Op.intCmp]
theorem v_gtr (hx : ev e x = some (.int k m)) (hy : ev e y = some (.int k n)) : Val P S N e (.binOp .gtr t x y t') (.bool (decide (n < m))) :=
  binVal hx hy eqGuard_int fun w => by simp [binOp, Op.intCmp]
theorem v_geq (hx : ev e x = some (.int k m)) (hy : ev e y = some (.int k n)) : Val P S N e (.binOp .geq t x y t') (.bool (decide (n ≤ m))) :=
  binVal hx hy eqGuard_int fun w => by simp [binOp, Op.intCmp]

theorem run_und {d : TypeDesc} (h : P.underlying t = some d) (w : World) : (underlying t).run P w = .ok d w := by
  simp [underlying, h]

/-- What '==' at a type comes to. -/
def EqN (P : Program) (n : Nat) (t : TypeId) (u v : Value) (b : Bool) : Prop := ∀ d w, (Op.equalIn (d + n) t u v).run P w = .ok b w
theorem run_eql {u v : Value} {b : Bool} (hb : binOp .eql t u v = (do pure (.bool (← Op.equal t u v)))) (h : EqN P 9 t u v b) (w : World) : (binOp .eql t u v).run P w = .ok (.bool b) w := by
  rw [hb]
  have := h 9991 w
  show ((Op.equalIn (9991 + 9) t u v) >>= _).run P w = _
  rw [Sem.run_bind, this]; rfl
theorem run_neq {u v : Value} {b : Bool} (hb : binOp .neq t u v = (do pure (.bool (!(← Op.equal t u v))))) (h : EqN P 9 t u v b) (w : World) : (binOp .neq t u v).run P w = .ok (.bool (!b)) w := by
  rw [hb]
  have := h 9991 w
  show ((Op.equalIn (9991 + 9) t u v) >>= _).run P w = _
  rw [Sem.run_bind, this]; rfl
theorem q_bool {p q : Bool} {z : Nat} (hu : P.underlying t = some .bool) : EqN P (z + 1) t (.bool p) (.bool q) (p == q) := fun d w => run_equalIn_bool' w (d + z) t p q hu
theorem q_int {z : Nat} (hu : P.underlying t = some (.int k')) : EqN P (z + 1) t (.int k m) (.int k n) (m == n) := fun d w => run_equalIn_int w (d + z) t k k' m n hu
theorem q_str {p q : ByteArray} {z : Nat} (hu : P.underlying t = some .string) : EqN P (z + 1) t (.string p) (.string q) (p.toList == q.toList) := fun d w => run_equalIn_string w (d + z) t p q hu
theorem v_eql_bool {p q : Bool} (hu : P.underlying t = some .bool) (hx : ev e x = some (.bool p)) (hy : ev e y = some (.bool q)) : Val P S N e (.binOp .eql t x y t') (.bool (p == q)) :=
  binVal hx hy eqGuard_bool (run_eql rfl (q_bool hu))
theorem v_neq_bool {p q : Bool} (hu : P.underlying t = some .bool) (hx : ev e x = some (.bool p)) (hy : ev e y = some (.bool q)) : Val P S N e (.binOp .neq t x y t') (.bool (!(p == q))) :=
  binVal hx hy eqGuard_bool (run_neq rfl (q_bool hu))
theorem v_eql_str {p q : ByteArray} (hx : ev e x = some (.string p)) (hy : ev e y = some (.string q)) : Val P S N e (.binOp .eql t x y t') (.bool (p.toList == q.toList)) :=
  binVal hx hy eqGuard_str fun w => by simp [binOp, Op.stringOp]
theorem v_neq_str {p q : ByteArray} (hx : ev e x = some (.string p)) (hy : ev e y = some (.string q)) : Val P S N e (.binOp .neq t x y t') (.bool (!(p.toList == q.toList))) :=
  binVal hx hy eqGuard_str fun w => by simp [binOp, Op.stringOp]
theorem q_ptr_nil {E : TypeId} {p : Option Addr} {z : Nat} (hu : P.underlying t = some (.pointer E)) : EqN P (z + 1) t (.pointer p) (.pointer none) p.isNone := fun d w =>
  run_equalIn_pointer_nil w (d + z) t p (by rw [show P.pointee t = E by simp [Program.pointee, hu]]; exact hu)
theorem v_eql_ptr_nil {E : TypeId} {p : Option Addr} (hu : P.underlying t = some (.pointer E)) (hx : ev e x = some (.pointer p)) (hy : ev e y = some (.pointer none)) : Val P S N e (.binOp .eql t x y t') (.bool p.isNone) :=
  binVal hx hy eqGuard_ptr (run_eql rfl (q_ptr_nil hu))
theorem v_neq_ptr_nil {E : TypeId} {p : Option Addr} (hu : P.underlying t = some (.pointer E)) (hx : ev e x = some (.pointer p)) (hy : ev e y = some (.pointer none)) : Val P S N e (.binOp .neq t x y t') (.bool (!p.isNone)) :=
  binVal hx hy eqGuard_ptr (run_neq rfl (q_ptr_nil hu))

/-- Field by field. -/
def EqF (P : Program) (z : Nat) (xs ys : List Value) (fs : List Field) (b : Bool) : Prop := ∀ d w, (Op.eqFields (d + z) xs.toArray ys.toArray fs).run P w = .ok b w
theorem qf_nil {xs ys : List Value} {z : Nat} : EqF P z xs ys [] true := fun d w => by simp [Op.eqFields]
theorem part_scal {l : List Value} {i : Nat} (ha : ∀ w, (isAgg t).run P w = .ok false w) (hi : l[i]? = some v) (w : World) : (part t l.toArray i).run P w = .ok v w := by
  simp [part, ha, hi]
theorem part_agg {l l' : List Value} {i n : Nat} (ha : ∀ w, (isAgg t).run P w = .ok true w) (hs : ∀ w, (sizeOf t).run P w = .ok n w) (hi : (l.drop i).take n = l') (w : World) : (part t l.toArray i).run P w = .ok (.agg l'.toArray) w := by
  subst hi
  simp [part, ha, hs, List.take_drop]
theorem qf_gen {xs ys : List Value} {nm : String} {ft fo : Nat} {em : Bool} {tg pk : String} {bo : Nat} {fs : List Field} {b c : Bool} {z : Nat} (hn : (nm == "_") = false) (hx : ∀ w, (part ft xs.toArray fo).run P w = .ok u w) (hy : ∀ w, (part ft ys.toArray fo).run P w = .ok v w)
    (h : EqN P z ft u v b) (r : EqF P z xs ys fs c) : EqF P z xs ys (⟨nm, ft, fo, em, tg, pk, bo⟩ :: fs) (b && c) := fun d w => by
  have hn' : nm ≠ "_" := by simpa using hn
  simp only [Op.eqFields, hn', ne_eq, not_false_eq_true, if_true, Sem.run_bind, hx, hy, Result.andThen_ok, h d]
  cases b with
  | false => simp
  | true => simp [r d w]
theorem qf_scal {xs ys : List Value} {nm : String} {ft fo : Nat} {em : Bool} {tg pk : String} {bo : Nat} {fs : List Field} {b c : Bool} {z : Nat} (hn : (nm == "_") = false) (ha : ∀ w, (isAgg ft).run P w = .ok false w) (hx : xs[fo]? = some u) (hy : ys[fo]? = some v)
    (h : EqN P z ft u v b) (r : EqF P z xs ys fs c) : EqF P z xs ys (⟨nm, ft, fo, em, tg, pk, bo⟩ :: fs) (b && c) := qf_gen hn (part_scal ha hx) (part_scal ha hy) h r
theorem q_struct {xs ys : List Value} {fs : Array Field} {b : Bool} {z : Nat} (hu : P.underlying t = some (.struct fs)) (hp : P.stoodInHeld t = false) (h : EqF P z xs ys fs.toList b) : EqN P (z + 1) t (.agg xs.toArray) (.agg ys.toArray) b := fun d w => by
  have hf : P.fieldsOf t = fs := by simp [Program.fieldsOf, hu]
  rw [← Nat.add_assoc, run_equalIn_struct w (d + z) t _ _ (by rw [hf]; exact hu) hp, hf]
  exact h d w
theorem eqGuard_agg {op : BinOp} {xs ys : Array Value} (hg : P.eqGuardType P.depth t = false) (w : World) (x y : Operand) : (eqGuard op t x y (.agg xs) (.agg ys)).run P w = .ok () w := by
  cases op <;> simp [eqGuard, hg]
theorem v_eql_agg {xs ys : List Value} {b : Bool} (hg : P.eqGuardType P.depth t = false) (hx : ev e x = some (.agg xs.toArray)) (hy : ev e y = some (.agg ys.toArray)) (h : EqN P 9 t (.agg xs.toArray) (.agg ys.toArray) b) : Val P S N e (.binOp .eql t x y t') (.bool b) :=
  binVal hx hy (eqGuard_agg hg) (run_eql rfl h)
theorem v_neq_agg {xs ys : List Value} {b : Bool} (hg : P.eqGuardType P.depth t = false) (hx : ev e x = some (.agg xs.toArray)) (hy : ev e y = some (.agg ys.toArray)) (h : EqN P 9 t (.agg xs.toArray) (.agg ys.toArray) b) : Val P S N e (.binOp .neq t x y t') (.bool (!b)) :=
  binVal hx hy (eqGuard_agg hg) (run_neq rfl h)

theorem v_not {b : Bool} (hx : ev e x = some (.bool b)) : Val P S N e (.unOp .not t x) (.bool (!b)) := fun a w _ _ _ _ _ hF _ => by
  simp [execOp, hF.eval hx, Op.unary]
theorem v_neg (hx : ev e x = some (.int k n)) (hw : k.wrap (0 - n) = r) : Val P S N e (.unOp .neg t x) (.int k r) := fun a w _ _ _ _ _ hF _ => by
  rw [← hw]; simp [execOp, hF.eval hx, Op.unary, Op.intArith]
theorem v_conv {d : TypeDesc} (hs : P.underlying t = some d) (hu : P.underlying t' = some (.int k)) (hx : ev e x = some (.int k' n)) (hw : k.wrap n = r) : Val P S N e (.convert t t' x) (.int k r) := fun a w _ _ _ _ _ hF _ => by
  rw [← hw]; simp [execOp, hF.eval hx, convert, run_und hs, run_und hu, Conv.intToInt]
theorem v_extract {l : List Value} {i : Nat} (hx : ev e x = some (.tuple l.toArray)) (hi : l[i]? = some v) : Val P S N e (.extract x i) v := fun a w _ _ _ _ _ hF _ => by
  simp [execOp, hF.eval hx, Instr.extract, hi]
theorem v_nilCheck {a' : Addr} (hx : ev e x = some (.pointer (some a'))) : Val P S N e (.nilCheck x) (.pointer (some a')) := fun a w _ _ _ _ _ hF _ => by
  simp [execOp, hF.eval hx]
theorem v_nilCheck_func {f : FuncId} {p q : Array Value} (hx : ev e x = some (.func (.func f) p q)) : Val P S N e (.nilCheck x) (.func (.func f) p q) := fun a w _ _ _ _ _ hF _ => by
  simp [execOp, hF.eval hx]

theorem v_len_slice {E n c : Nat} {a' : Option Addr} (hu : P.underlying t = some (.slice E)) (hx : ev e x = some (.slice a' n c)) :
    Val P S N e (.call { callee := .builtin .len, args := #[x], argTypes := #[t] }) (.int .i64 n) := fun a w _ _ _ _ _ hF _ => by
  simp [execOp, resolve, invoke, builtin, Builtin.len_, hF.eval hx, run_und hu, goInt]
theorem v_len_string {s : ByteArray} (hu : P.underlying t = some .string) (hx : ev e x = some (.string s)) :
    Val P S N e (.call { callee := .builtin .len, args := #[x], argTypes := #[t] }) (.int .i64 s.size) := fun a w _ _ _ _ _ hF _ => by
  simp [execOp, resolve, invoke, builtin, Builtin.len_, hF.eval hx, run_und hu, goInt]

/-- Where a field lies. -/
theorem v_fieldAddr {T : TypeId} {fs : Array Field} {nm : String} {ft fo : Nat} {em : Bool} {tg pk : String} {bo i b off off' sz : Nat} (hx : ev e x = some (.pointer (some ⟨b, off, none⟩))) (hu : P.underlying T = some (.struct fs)) (hf : fs.toList[i]? = some ⟨nm, ft, fo, em, tg, pk, bo⟩)
    (hs : ∀ w, (sizeOf ft).run P w = .ok sz w) (hz : Nat.beq sz 0 = false) (ho : off + fo = off') : Val P S N e (.fieldAddr T x i) (.pointer (some ⟨b, off', none⟩)) := fun a w _ _ _ _ _ hF _ => by
  subst ho
  have hz' : sz ≠ 0 := Nat.ne_of_beq_eq_false hz
  have hf' : fs[i]? = some ⟨nm, ft, fo, em, tg, pk, bo⟩ := by simpa using hf
  simp [execOp, Instr.fieldAt, hF.eval hx, run_und hu, hf', Instr.sureAddr, fieldPlace, hs, hz', Addr.add]
end
end Go.Proofs.YteolepiendmhlaaGreatDoor
