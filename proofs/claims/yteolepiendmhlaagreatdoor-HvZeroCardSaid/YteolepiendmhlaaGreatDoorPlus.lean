/-
  Reslicing, make, copy, min. Nothing of one program stands here.
-/
import Derived.Test.YteolepiendmhlaaGreatDoorRound
import Derived.Laws.MakeOwn
namespace Go.Proofs.YteolepiendmhlaaGreatDoor
open Go.RowKit
set_option linter.unusedSimpArgs false
set_option linter.unusedVariables false

section
variable {rd : Option Nat} {P : Program} {S : World → Prop} {W0 : World} {N : FSz} {Q : Exit → Act → World → Prop} {e : Env} {A B R : List HP} {ops : Array Oper} {rest : List Oper}
variable {op : Op} {ty t t' : TypeId} {pos : String} {af : Array Edge} {v u : Value} {d b off : Nat} {x y z : Operand} {l l' vs : List Value}

theorem Cells.weak (h : Cells (OwnP W0 B) b off vs) [k : Ent A B] : Cells (OwnP W0 A) b off vs := fun i v hi => (h i v hi).weak
theorem q_slice_nil {E d : Nat} {a : Option Addr} {n c : Nat} (hu : P.underlying t = some (.slice E)) : EqN P (d + 1) t (.slice a n c) (.slice none 0 0) a.isNone := fun w => by
  cases a <;> simp [Op.equalIn, run_und hu]
theorem v_eql_slice_nil {E : TypeId} {a : Option Addr} {n c : Nat} (hu : P.underlying t = some (.slice E)) (hx : ev e x = some (.slice a n c)) (hy : ev e y = some (.slice none 0 0)) : Val P S N e (.binOp .eql t x y t') (.bool a.isNone) :=
  binVal hx hy (fun w x y => by simp [eqGuard]) (run_eql rfl (q_slice_nil hu))

theorem run_bound {P : Program} {k : IntKind} {i y : Nat} {code : BoundsCode} (h : i ≤ y) (w : World) : (Instr.sliceBound (.int k (i : Int)) y code).run P w = .ok i w := by
  have : (0 : Int) ≤ (i : Int) ∧ (i : Int) ≤ (y : Int) := by omega
  simp [Instr.sliceBound, asIntOf, this, h]
/-- x[l:h:m], something left. -/
theorem v_slice3 {E n c sz o' : Nat} {k k' k'' : IntKind} {i h m : Nat} {j1 j2 j3 : Int} (hu : P.underlying t = some (.slice E)) (hs : ∀ w, (sizeOf E).run P w = .ok sz w) (hx : ev e x = some (.slice (some ⟨b, off, none⟩) n c))
    {lo hi mx : Operand} (h1 : ev e lo = some (.int k j1)) (h2 : ev e hi = some (.int k' j2)) (h3 : ev e mx = some (.int k'' j3)) (e1 : j1 = (i : Int)) (e2 : j2 = (h : Int)) (e3 : j3 = (m : Int)) (hil : i ≤ h) (hhm : h ≤ m) (hmc : m ≤ c) (hne : i < m) (ho : off + i * sz = o') :
    Val P S N e (.slice t x (some lo) (some hi) (some mx)) (.slice (some ⟨b, o', none⟩) (h - i) (m - i)) := fun a w _ _ _ _ _ hF _ => by
  subst e1; subst e2; subst e3; subst ho
  have hmi : ¬ m = i := by omega
  simp [execOp, Instr.sliceAt, Instr.slice, hF.eval hx, hF.eval h1, hF.eval h2, hF.eval h3, run_und hu, Instr.sliceBounds, run_bound hmc, run_bound hhm, run_bound hil, hs, hmi, add_none]
/-- x[l:h], something left. -/
theorem v_sliceLH {E n c sz o' : Nat} {k k' : IntKind} {i h : Nat} {j1 j2 : Int} (hu : P.underlying t = some (.slice E)) (hs : ∀ w, (sizeOf E).run P w = .ok sz w) (hx : ev e x = some (.slice (some ⟨b, off, none⟩) n c))
    {lo hi : Operand} (h1 : ev e lo = some (.int k j1)) (h2 : ev e hi = some (.int k' j2)) (e1 : j1 = (i : Int)) (e2 : j2 = (h : Int)) (hil : i ≤ h) (hmc : h ≤ c) (hne : i < c) (ho : off + i * sz = o') :
    Val P S N e (.slice t x (some lo) (some hi) none) (.slice (some ⟨b, o', none⟩) (h - i) (c - i)) := fun a w _ _ _ _ _ hF _ => by
  subst e1; subst e2; subst ho
  have hmi : ¬ c = i := by omega
  simp [execOp, Instr.sliceAt, Instr.slice, hF.eval hx, hF.eval h1, hF.eval h2, run_und hu, Instr.sliceBounds, run_bound hmc, run_bound hil, hs, hmi, add_none]
/-- p[:] of an array that p points to. -/
theorem v_sliceArr {E n sz : Nat} (hu : P.underlying t = some (.array n E)) (hs : ∀ w, (sizeOf E).run P w = .ok sz w) (hx : ev e x = some (.pointer (some ⟨b, off, none⟩))) :
    Val P S N e (.slice t x none none none) (.slice (some ⟨b, off, none⟩) n n) := fun a w _ _ _ _ _ hF _ => by
  by_cases h : n = 0
  · simp [execOp, Instr.sliceAt, hF.eval hx, run_und hu, Instr.sureAddr, Instr.sliceBounds, hs, h]
  · simp [execOp, Instr.sliceAt, hF.eval hx, run_und hu, Instr.sureAddr, Instr.sliceBounds, hs, h, add_none]

/-- []T{} -/
theorem d_slice0 {E sz : Nat} {ps : Array (Nat × Operand)} (hu : P.underlying t = some (.slice E)) (hs : ∀ w, (sizeOf E).run P w = .ok sz w) (hp : ps = #[]) :
    Does P W0 N e A (.buildSlice t 0 ps) (fun v B => ∃ b, v = .slice (some ⟨b, 0, none⟩) 0 0 ∧ B = osl E sz v [] :: A) := does_run fun a w _ _ _ _ _ hF hO => by
  subst hp
  have hn := hO.new (cob [] E)
  refine ⟨_, { w with heap := w.heap.push (cob [] E) }, _, .inl ?_, ⟨w.heap.size, rfl, rfl⟩, ?_⟩
  · simp [execOp, Instr.buildSlice, run_und hu, hs, Instr.fill, newRow, Array.range_zero']
  · have : pt w.heap.size (cob [] E) = pt w.heap.size (cob ([] ++ []) E) := rfl
    rw [this] at hn
    exact hn.ent (ent_osl (Nat.le_refl _) (Nat.zero_le _) (by simp) (by simp))

/-- make([]T, n) -/
theorem d_make {E sz by_ : Nat} {info : TypeInfo} {zz : Value} {v0 : Value} {n : Nat} {k k' : IntKind} {i1 i2 : Int} (hu : P.underlying t = some (.slice E)) (hi : P.info? E = some info) (hz : info.zero = some zz) (hsz : info.size = sz) (hby : info.bytes = by_)
    (hzc : zz.cells = (List.replicate sz v0).toArray) (hsz0 : 0 < sz) (hx : ev e x = some (.int k i1)) (hy : ev e y = some (.int k' i2)) (e1 : i1 = (n : Int)) (e2 : i2 = (n : Int)) (hn : n ≤ 1000000) (hb : by_ ≤ 1000000) :
    Does P W0 N e A (.makeSlice t x y) (fun v B => ∃ b, v = .slice (some ⟨b, 0, none⟩) n n ∧ B = pt b (cob (List.replicate (n * sz) v0) E) :: A) :=
  d_new (g := fun b => .slice (some ⟨b, 0, none⟩) n n) (fun a w _ _ _ _ _ hF _ => by
    subst e1; subst e2; subst hsz; subst hby
    have hm : info.bytes * n ≤ 1000000 * 1000000 := Nat.mul_le_mul hb hn
    have hr := run_make (P := P) w t E info zz hu hi hz k k' n n (by omega) (by omega) (by rw [← Int.natCast_mul]; omega) (by omega)
    simp only [Int.toNat_natCast] at hr
    have hc : madeCells zz.cells (n * info.size) = (List.replicate (n * info.size) v0).toArray := by
      apply Array.ext
      · simp [madeCells]
      · intro i h1 h2
        simp only [madeCells, hzc, Array.getElem_map, Array.getElem_range, List.size_toArray, List.length_replicate]
        have hlt : i % info.size < info.size := Nat.mod_lt _ hsz0
        rw [getElem!_pos _ _ (by simpa using hlt)]
        simp
    rw [hc] at hr
    simp only [execOp, hF.eval hx, hF.eval hy, Sem.run_bind, hr, Result.andThen_ok, Sem.run_pure]
    rfl)

/-- copy(dst, src) -/
theorem d_copy {E sz dn dc sn sc bx ox m : Nat} (hu : P.underlying t = some (.slice E)) (hs : ∀ w, (sizeOf E).run P w = .ok sz w) (hx : ev e x = some (.slice (some ⟨b, off, none⟩) dn dc)) (hy : ev e y = some (.slice (some ⟨bx, ox, none⟩) sn sc))
    [h : Tk pt b A (cob l ty) R] (hm : Nat.min sn dn = m) (hc : Cells (OwnP W0 A) bx ox vs) (hl : vs.length = m * sz) (h1 : allOne vs = true) (ho : off + m * sz ≤ l.length) (hr : setR l off vs = l') :
    Does P W0 N e A (.call { callee := .builtin .copy, args := #[x, y], argTypes := #[t, t'] }) (fun v B => v = .int .i64 m ∧ B = pt b (cob l' ty) :: R) := by
  intro a w dst ty' pos af g K Q hF hO k
  have hO' := hO.tk (r := pt) (b := b)
  have hld := run_loadCells (P := P) (w := w) (fun i v hi => hc i v hi w hO) (m * sz) 0 #[] (by omega)
  obtain ⟨w', hst, hO''⟩ := storeCells_own (P := P) (off := off) vs 0 hO' (by omega) (fun v hv => by simpa [allOne] using (List.all_eq_true.1 h1 v hv))
  rw [Nat.add_zero, hr] at hO''
  have hexec : (execOp a.eval { dst := dst, op := .call { callee := .builtin .copy, args := #[x, y], argTypes := #[t, t'] }, type := ty', pos := pos, after := af, guard := g }).run P w = .ok (.value (.int .i64 m)) w' := by
    simp only [execOp, resolve, invoke, builtin, Sem.run_bind, Sem.run_pure, Result.andThen_ok, List.map_toArray, List.map_cons, List.map_nil, hF.eval hx, hF.eval hy, Builtin.copy_, Builtin.lenOf, Builtin.firstCells, run_und hu, hs]
    have hs' : (sizeOf E).run P w = .ok sz w := hs w
    simp only [hm, Array.getElem?_eq_getElem, List.getElem?_toArray, List.getElem?_cons_zero, List.getElem?_cons_succ, Sem.run_bind, Sem.run_pure, Result.andThen_ok, run_und hu, hs', loadCells, hld, List.drop_zero, List.nil_append, Array.empty_append, hst, goInt]
  unfold Oper.wp
  rw [hexec]
  exact k _ w' _ ⟨rfl, rfl⟩ hO''
theorem v_min {k : IntKind} {m n r : Int} {ats : Array TypeId} (hx : ev e x = some (.int k m)) (hy : ev e y = some (.int k n)) (hr : (if n < m then n else m) = r) : Val P S N e (.call { callee := .builtin .min, args := #[x, y], argTypes := ats }) (.int k r) := fun a w _ _ _ _ _ hF _ => by
  simp [execOp, resolve, invoke, builtin, hF.eval hx, hF.eval hy, Builtin.min_, Builtin.min2, hr]
end
end Go.Proofs.YteolepiendmhlaaGreatDoor
